/-
 Which modes of a plant admit an input in a state, and the weakest one: of the program and of the reference.
 Conditions: the slices hold at most 2^20 elements.
-/
import Derived.Test.YtkjimfapbjdafaaGreatModM
import Derived.Test.YtkjimfapbjdafaaGreatV1
import Derived.Test.YtkjimfapbjdafaaGreatV4
import Derived.Test.YtkjimfapbjdafaaGreatGrY
import Derived.Test.YtkjimfapbjdafaaGreatVa
import Derived.Test.YtkjimfapbjdafaaGreatCopy
import Derived.Test.YtkjimfapbjdafaaGreatGrXa
import Derived.Test.YtkjimfapbjdafaaGreatAdi
import Derived.Test.YtkjimfapbjdafaaGreatGrF
namespace Go.Proofs.YtkjimfapbjdafaaGreat
open Go.RowKit
theorem who_i_no {u:YX} (h:(!(Xv u) || !(Y3 u.low) || !(Y3 u.high))=true):whoN u=0:=by
 unfold whoN
 rw [if_neg]
 intro q
 simp only [Bool.and_eq_true] at q
 rw [q.1.1,q.1.2,q.2] at h;cases h
theorem who_i_yes {u:YX} (h:(!(Xv u) || !(Y3 u.low) || !(Y3 u.high))=false):whoN u=max (Yp u.high-YL u.low+1) 0:=by
 unfold whoN
 rw [if_pos]
 rw [Zv (KB (KB h)),Zv (JZ (KB h)),Zv (JZ h)];rfl
theorem who_s_no {u:YX} (h:(!(Xv u)||decide (Xq u.low ⟨-1000,1⟩<0)||decide (Xq u.high ⟨1000,1⟩ > 0))=true):whoN u=0:=by rw [who_s,if_pos h]
theorem who_s_yes {u:YX} (h:(!(Xv u)||decide (Xq u.low ⟨-1000,1⟩<0)||decide (Xq u.high ⟨1000,1⟩ > 0))=false):whoN u=max 0 (Yp u.high-YL u.low+1):=by rw [who_s,if_neg (by rw [h];simp)]
theorem who_bd {u:YX} (h:Xv u=true):(-1000000000000000000≤Yp u.high∧Yp u.high≤1000000000000000000)∧(-1000000000000000000≤YL u.low∧YL u.low≤1000000000000000000):=⟨floor_bd (spanOk_r h).2,ceil_bd (spanOk_r h).1⟩
theorem or_dec {a b:Prop} [Decidable a] [Decidable b] (h:(decide a||decide b)=true):a∨b:=by simpa using h
set_option maxRecDepth 100000 in
set_option maxHeartbeats 3000000 in
theorem iWho_c (u:YX) (w:World) (hu:u.In) :
 Calls Tryz.prog 95 #[Yf u] w fun x w'=>x=.returned (.int .i64 (whoN u))∧Below w.heap.size w w':=by
 refine Y4 Tryz.func95 rfl (n:=27) Tryz.ntmps95 (by simp) ?_
 intro a0 J F ha
 have s0:a0.tmps[0]?.getD undef=Yf u:=ha 0 _ rfl;clear ha
 have O:=Below.refl w.heap.size w
 have S:=Nat.le_refl w.heap.size
 refine wp_seq ?_
 refine YK [1,2] [.pointer (some ⟨w.heap.size,0,none⟩),.int .i64 0] [some (.cells [.int .i64 u.low.n,.int .i64 u.low.d,.int .i64 u.high.n,.int .i64 u.high.d].toArray 72),none] [0,1] [1,2] [0,1] (by kernel_rfl) (by rw [J];decide) (ec ?_ (ec ?_ .nil)) ?_
 ·intro a w' B hs N Q D;simp [go_sem,B.g rfl s0];rw [hs];exact D
 ·intro a w' B hs N Q D;simp [go_sem];exact D
 intro a1 w2 B K hb hO
 replace J:=B.size.trans J;replace F:=B.defers.trans F
 have s1:a1.tmps[1]?.getD undef=.pointer (some ⟨w.heap.size,0,none⟩):=K 0 (by decide)
 have b3:Xy w2 w.heap.size 72 [.int .i64 u.low.n,.int .i64 u.low.d,.int .i64 u.high.n,.int .i64 u.high.d]:=hO 0 _ rfl
 have hG:=b3.lt
 replace O:=Xh O hb;have zw2:=Nat.le_trans S hb.size;replace S:=Nat.le_refl w2.heap.size;clear B K hb hO s0;refine Xj (wp_seq (wp_seq ?_))
 refine Xe (by kernel_rfl) [3,4,5,6,7,8,9,10,11,12,13,14,15,16,17] [some (Yf u),some (.bool (Xv u)),some (.bool (!(Xv u))),some (.bool (!(Xv u))),some ((bif !(Xv u) then undef else (.pointer (some ⟨w.heap.size,0,none⟩):Value))),some ((bif !(Xv u) then undef else (.agg #[.int .i64 u.low.n,.int .i64 u.low.d]:Value))),some ((bif !(Xv u) then undef else (.bool (Y3 u.low):Value))),some ((bif !(Xv u) then undef else (.bool (!(Y3 u.low)):Value))),some (.bool (!(Xv u) || !(Y3 u.low))),some (.bool (!(Xv u) || !(Y3 u.low))),some ((bif (!(Xv u) || !(Y3 u.low)) then undef else (.pointer (some ⟨w.heap.size,2,none⟩):Value))),some ((bif (!(Xv u) || !(Y3 u.low)) then undef else (.agg #[.int .i64 u.high.n,.int .i64 u.high.d]:Value))),some ((bif (!(Xv u) || !(Y3 u.low)) then undef else (.bool (Y3 u.high):Value))),some ((bif (!(Xv u) || !(Y3 u.low)) then undef else (.bool (!(Y3 u.high)):Value))),some (.bool ((!(Xv u) || !(Y3 u.low)) || !(Y3 u.high)))] (X7 15) [3,4,5,6,7,8,9,10,11,12,13,14,15,16,17] [0,1,2,3,4,5,6,7,8,9,10,11,12,13,14] [] (fun _ _ _=>True) (by kernel_rfl) (by rw [J];decide) ?_ (en rfl ?_ (en rfl ?_ (en rfl ?_ (en rfl ?_ (eg ?_ (eg ?_ (eg ?_ (eg ?_ (en rfl ?_ (en rfl ?_ (eg ?_ (eg ?_ (eg ?_ (eg ?_ (en rfl ?_ .nil))))))))))))))) ?_
 ·exact fun _ _=>trivial
 ·intro R M I H _ _ D
  simp [go_sem,H.f.g rfl s1,(b3.k0 H.k).cell]
  exact (D _ _ H.k rfl trivial)
 ·intro R M I H _ _ D
  simp [go_sem,(gS M 3 (H.d 0 rfl rfl))]
  refine (iSpanOk_c u I hu).mono ?_
  rintro x wx ⟨rfl,hb⟩
  exact (D _ _ (H.k.call hb) rfl trivial)
 ·exact Jn 1 rfl rfl rfl rfl
 ·exact Jj 2 rfl rfl rfl rfl
 ·intro R M I H _ _ D
  refine KZ rfl rfl rfl (H.d 3 rfl rfl) (fun qg=>D _ _ H.k (XM qg).symm trivial) fun qg=>?_
  simp [go_sem,H.f.g rfl s1]
  exact (D _ _ H.k (XA qg).symm trivial)
 ·intro R M I H _ _ D
  refine KZ rfl rfl rfl (H.d 3 rfl rfl) (fun qg=>D _ _ H.k (XM qg).symm trivial) fun qg=>?_
  simp [go_sem,(show M.tmps[7]?.getD undef=_ from (H.d 4 rfl rfl).trans (XA qg)),(b3.k0 H.k).cell]
  exact (D _ _ H.k (XA qg).symm trivial)
 ·intro R M I H _ _ D
  refine KZ rfl rfl rfl (H.d 3 rfl rfl) (fun qg=>D _ _ H.k (XM qg).symm trivial) fun qg=>?_
  simp [go_sem,(show M.tmps[8]?.getD undef=_ from (H.d 5 rfl rfl).trans (XA qg))]
  refine (isDriven_c u.low I hu.1).mono ?_
  rintro x wx ⟨rfl,hb⟩
  exact (D _ _ (H.k.call hb) (XA qg).symm trivial)
 ·intro R M I H _ _ D
  refine KZ rfl rfl rfl (H.d 3 rfl rfl) (fun qg=>D _ _ H.k (XM qg).symm trivial) fun qg=>?_
  exact Jh rfl (ev ((H.d 6 rfl rfl).trans (XA qg))) (D _ _ H.k (XA qg).symm trivial)
 ·exact oPOT 3 7 rfl rfl rfl rfl rfl rfl
 ·exact Jj 8 rfl rfl rfl rfl
 ·intro R M I H _ _ D
  refine KZ rfl rfl rfl (H.d 9 rfl rfl) (fun qg=>D _ _ H.k (XM qg).symm trivial) fun qg=>?_
  simp [go_sem,H.f.g rfl s1]
  exact (D _ _ H.k (XA qg).symm trivial)
 ·intro R M I H _ _ D
  refine KZ rfl rfl rfl (H.d 9 rfl rfl) (fun qg=>D _ _ H.k (XM qg).symm trivial) fun qg=>?_
  simp [go_sem,(show M.tmps[13]?.getD undef=_ from (H.d 10 rfl rfl).trans (XA qg)),(b3.k0 H.k).cell]
  exact (D _ _ H.k (XA qg).symm trivial)
 ·intro R M I H _ _ D
  refine KZ rfl rfl rfl (H.d 9 rfl rfl) (fun qg=>D _ _ H.k (XM qg).symm trivial) fun qg=>?_
  simp [go_sem,(show M.tmps[14]?.getD undef=_ from (H.d 11 rfl rfl).trans (XA qg))]
  refine (isDriven_c u.high I hu.2).mono ?_
  rintro x wx ⟨rfl,hb⟩
  exact (D _ _ (H.k.call hb) (XA qg).symm trivial)
 ·intro R M I H _ _ D
  refine KZ rfl rfl rfl (H.d 9 rfl rfl) (fun qg=>D _ _ H.k (XM qg).symm trivial) fun qg=>?_
  exact Jh rfl (ev ((H.d 12 rfl rfl).trans (XA qg))) (D _ _ H.k (XA qg).symm trivial)
 ·exact oPOT 9 13 rfl rfl rfl rfl rfl rfl
 intro L a4 w5 U B C K T;replace J:=B.Z J;replace F:=B.E F;replace s1:=B.G s1;have s17:=gS a4 17 (K 14 _ rfl);replace b3:=b3.k0 C;replace S:=Nat.le_trans S C.size;replace O:=C.below0 O;clear B C K U T;refine Xj ?_
 rcases Bool.eq_false_or_eq_true ((!(Xv u) || !(Y3 u.low)) || !(Y3 u.high)) with q6|q6
 ·refine wp_cond_true (ev (vb s17 q6)) ?_
  refine wp_seq ?_
  refine Xe (by kernel_rfl) [2] [some (.int .i64 0)] (X7 1) [2] [0] [] (fun _ _ _=>True) (by kernel_rfl) (by rw [J];decide) ?_ (en rfl ?_ .nil) ?_
  ·exact fun _ _=>trivial
  ·exact Kk rfl rfl
  intro L a7 w8 U B C K T;replace J:=B.Z J;replace F:=B.E F;have s2:=gS a7 2 (K 0 _ rfl);replace S:=Nat.le_trans S C.size;replace O:=C.below0 O;clear B C K U T s1 s17 b3;refine Xj (wp_ret (YY ?_))
  refine bodyPost_ret (v:=.int .i64 0) (by simp [results,Tryz.results95,go_sem,s2]) F ?_
  exact ⟨by rw [who_i_no q6],O⟩
 ·have hbd:=who_bd (Zv (KB (KB q6)))
  refine wp_cond_false (ev (vb s17 q6)) ?_
  refine wp_skip (Xj (wp_seq ?_))
  refine Xe (by kernel_rfl) [18,19,20,21,22,23,24,25,26,2] [some (.pointer (some ⟨w.heap.size,2,none⟩)),some (.agg #[.int .i64 u.high.n,.int .i64 u.high.d]),some (.int .i64 (Yp u.high)),some (.pointer (some ⟨w.heap.size,0,none⟩)),some (.agg #[.int .i64 u.low.n,.int .i64 u.low.d]),some (.int .i64 (YL u.low)),some (.int .i64 ((Yp u.high)-(YL u.low))),some (.int .i64 (((Yp u.high)-(YL u.low))+1)),some (.int .i64 (max (((Yp u.high)-(YL u.low))+1) 0)),some (.int .i64 (max (((Yp u.high)-(YL u.low))+1) 0))] ([[],[0],[0,1],[],[3],[0,1,2,3,4],[0,1,2,3,4,5],[0,1,2,3,4,5,6],[0,1,2,3,4,5,6,7],[0,1,2,3,4,5,6,7,8]]) [18,19,20,21,22,23,24,25,26,2] [0,1,2,3,4,5,6,7,8,9] [] (fun _ _ _=>True) (by kernel_rfl) (by rw [J];decide) ?_ (en rfl ?_ (en rfl ?_ (en rfl ?_ (en rfl ?_ (en rfl ?_ (en rfl ?_ (en rfl ?_ (en rfl ?_ (en rfl ?_ (en rfl ?_ .nil)))))))))) ?_
  ·exact fun _ _=>trivial
  ·intro R M I H _ _ D
   simp [go_sem,H.f.g rfl s1]
   exact (D _ _ H.k rfl trivial)
  ·intro R M I H _ _ D
   simp [go_sem,(gS M 18 (H.d 0 rfl rfl)),(b3.k0 H.k).cell]
   exact (D _ _ H.k rfl trivial)
  ·intro R M I H _ _ D
   simp [go_sem,(gS M 19 (H.d 1 rfl rfl))]
   refine (iRatFloor_c u.high I hu.2).mono ?_
   rintro x wx ⟨rfl,hb⟩
   exact (D _ _ (H.k.call hb) rfl trivial)
  ·intro R M I H _ _ D
   simp [go_sem,H.f.g rfl s1]
   exact (D _ _ H.k rfl trivial)
  ·intro R M I H _ _ D
   simp [go_sem,(gS M 21 (H.d 3 rfl rfl)),(b3.k0 H.k).cell]
   exact (D _ _ H.k rfl trivial)
  ·intro R M I H _ _ D
   simp [go_sem,(gS M 22 (H.d 4 rfl rfl))]
   refine (iRatCeil_c u.low I hu.1).mono ?_
   rintro x wx ⟨rfl,hb⟩
   exact (D _ _ (H.k.call hb) rfl trivial)
  ·exact fun R M I H _ _ D=>wp_sub rfl (ev (H.d 2 rfl rfl)) (ev (H.d 5 rfl rfl)) (by omega) (D _ _ H.k rfl trivial)
  ·exact fun R M I H _ _ D=>ZY rfl (ev (H.d 6 rfl rfl)) rfl (by omega) (D _ _ H.k rfl trivial)
  ·intro R M I H _ _ D
   simp [go_sem,(gS M 25 (H.d 7 rfl rfl))]
   exact (D _ _ H.k rfl trivial)
  ·exact Ke 8 rfl rfl rfl rfl
  intro L a9 w10 U B C K T;replace J:=B.Z J;replace F:=B.E F;have s2:=gS a9 2 (K 9 _ rfl);replace S:=Nat.le_trans S C.size;replace O:=C.below0 O;clear B C K U T s1 s17 b3;refine Xj (wp_ret ?_)
  refine bodyPost_ret (v:=.int .i64 (max (((Yp u.high)-(YL u.low))+1) 0)) (by simp [results,Tryz.results95,go_sem,s2]) F ?_
  exact ⟨by rw [who_i_yes q6],O⟩
set_option maxRecDepth 100000 in
set_option maxHeartbeats 3000000 in
theorem sWho_c (u:YX) (w:World) (hu:u.In) :
 Calls Tryz.prog 94 #[Yf u] w fun x w'=>x=.returned (.int .i64 (whoN u))∧Below w.heap.size w w':=by
 refine Y4 Tryz.func94 rfl (n:=29) Tryz.ntmps94 (by simp) ?_
 intro a0 J F ha
 have s0:a0.tmps[0]?.getD undef=Yf u:=ha 0 _ rfl;clear ha
 have O:=Below.refl w.heap.size w
 have S:=Nat.le_refl w.heap.size
 refine wp_seq ?_
 refine YK [1,2] [.pointer (some ⟨w.heap.size,0,none⟩),.int .i64 0] [some (.cells [.int .i64 u.low.n,.int .i64 u.low.d,.int .i64 u.high.n,.int .i64 u.high.d].toArray 72),none] [0,1] [1,2] [0,1] (by kernel_rfl) (by rw [J];decide) (ec ?_ (ec ?_ .nil)) ?_
 ·intro a w' B hs N Q D;simp [go_sem,B.g rfl s0];rw [hs];exact D
 ·intro a w' B hs N Q D;simp [go_sem];exact D
 intro a1 w2 B K hb hO
 replace J:=B.size.trans J;replace F:=B.defers.trans F
 have s1:a1.tmps[1]?.getD undef=.pointer (some ⟨w.heap.size,0,none⟩):=K 0 (by decide)
 have b3:Xy w2 w.heap.size 72 [.int .i64 u.low.n,.int .i64 u.low.d,.int .i64 u.high.n,.int .i64 u.high.d]:=hO 0 _ rfl
 have hG:=b3.lt
 replace O:=Xh O hb;have zw2:=Nat.le_trans S hb.size;replace S:=Nat.le_refl w2.heap.size;clear B K hb hO s0;refine Xj (wp_seq (wp_seq ?_))
 refine Xe (by kernel_rfl) [3,4,5,6,7,8,9,10,11,12,13,14,15,16,17,18,19] [some (Yf u),some (.bool (Xv u)),some (.bool (!(Xv u))),some (.bool (!(Xv u))),some ((bif !(Xv u) then undef else (.pointer (some ⟨w.heap.size,0,none⟩):Value))),some ((bif !(Xv u) then undef else (.agg #[.int .i64 u.low.n,.int .i64 u.low.d]:Value))),some ((bif !(Xv u) then undef else (.agg #[.int .i64 (-1000),.int .i64 1]:Value))),some ((bif !(Xv u) then undef else (.int .i64 (Xq u.low ⟨-1000,1⟩):Value))),some ((bif !(Xv u) then undef else (.bool (decide (Xq u.low ⟨-1000,1⟩<0)):Value))),some (.bool (!(Xv u)||decide (Xq u.low ⟨-1000,1⟩<0))),some (.bool (!(Xv u)||decide (Xq u.low ⟨-1000,1⟩<0))),some ((bif (!(Xv u)||decide (Xq u.low ⟨-1000,1⟩<0)) then undef else (.pointer (some ⟨w.heap.size,2,none⟩):Value))),some ((bif (!(Xv u)||decide (Xq u.low ⟨-1000,1⟩<0)) then undef else (.agg #[.int .i64 u.high.n,.int .i64 u.high.d]:Value))),some ((bif (!(Xv u)||decide (Xq u.low ⟨-1000,1⟩<0)) then undef else (.agg #[.int .i64 1000,.int .i64 1]:Value))),some ((bif (!(Xv u)||decide (Xq u.low ⟨-1000,1⟩<0)) then undef else (.int .i64 (Xq u.high ⟨1000,1⟩):Value))),some ((bif (!(Xv u)||decide (Xq u.low ⟨-1000,1⟩<0)) then undef else (.bool (decide (Xq u.high ⟨1000,1⟩ > 0)):Value))),some (.bool ((!(Xv u)||decide (Xq u.low ⟨-1000,1⟩<0))||decide (Xq u.high ⟨1000,1⟩ > 0)))] ([[],[0],[0,1],[0,1,2],[0,1,2,3],[0,1,2,3,4],[0,1,2,3],[0,1,2,3,4,5,6],[0,1,2,3,4,5,6,7],[0,1,2,3,4,5,6,7,8],[0,1,2,3,4,5,6,7,8,9],[0,1,2,3,4,5,6,7,8,9,10],[0,1,2,3,4,5,6,7,8,9,10,11],[0,1,2,3,4,5,6,7,8,9,10],[0,1,2,3,4,5,6,7,8,9,10,11,12,13],[0,1,2,3,4,5,6,7,8,9,10,11,12,13,14],[0,1,2,3,4,5,6,7,8,9,10,11,12,13,14,15]]) [3,4,5,6,7,8,9,10,11,12,13,14,15,16,17,18,19] [0,1,2,3,4,5,6,7,8,9,10,11,12,13,14,15,16] [] (fun _ _ _=>True) (by kernel_rfl) (by rw [J];decide) ?_ (en rfl ?_ (en rfl ?_ (en rfl ?_ (en rfl ?_ (eg ?_ (eg ?_ (eg ?_ (eg ?_ (eg ?_ (en rfl ?_ (en rfl ?_ (eg ?_ (eg ?_ (eg ?_ (eg ?_ (eg ?_ (en rfl ?_ .nil))))))))))))))))) ?_
 ·exact fun _ _=>trivial
 ·intro R M I H _ _ D
  simp [go_sem,H.f.g rfl s1,(b3.k0 H.k).cell]
  exact (D _ _ H.k rfl trivial)
 ·intro R M I H _ _ D
  simp [go_sem,(gS M 3 (H.d 0 rfl rfl))]
  refine (sSpanOk_c u I hu).mono ?_
  rintro x wx ⟨rfl,hb⟩
  exact (D _ _ (H.k.call hb) rfl trivial)
 ·exact Jn 1 rfl rfl rfl rfl
 ·exact Jj 2 rfl rfl rfl rfl
 ·intro R M I H _ _ D
  refine KZ rfl rfl rfl (H.d 3 rfl rfl) (fun qg=>D _ _ H.k (XM qg).symm trivial) fun qg=>?_
  simp [go_sem,H.f.g rfl s1]
  exact (D _ _ H.k (XA qg).symm trivial)
 ·intro R M I H _ _ D
  refine KZ rfl rfl rfl (H.d 3 rfl rfl) (fun qg=>D _ _ H.k (XM qg).symm trivial) fun qg=>?_
  simp [go_sem,(show M.tmps[7]?.getD undef=_ from (H.d 4 rfl rfl).trans (XA qg)),(b3.k0 H.k).cell]
  exact (D _ _ H.k (XA qg).symm trivial)
 ·intro R M I H _ _ D
  refine KZ rfl rfl rfl (H.d 3 rfl rfl) (fun qg=>D _ _ H.k (XM qg).symm trivial) fun qg=>?_
  simp [go_sem]
  refine (sWhole_c (-1000) I (by omega)).mono ?_
  rintro x wx ⟨rfl,hb⟩
  exact (D _ _ (H.k.call hb) (XA qg).symm trivial)
 ·intro R M I H _ _ D
  refine KZ rfl rfl rfl (H.d 3 rfl rfl) (fun qg=>D _ _ H.k (XM qg).symm trivial) fun qg=>?_
  simp [go_sem,(show M.tmps[8]?.getD undef=_ from (H.d 5 rfl rfl).trans (XA qg)),(show M.tmps[9]?.getD undef=_ from (H.d 6 rfl rfl).trans (XA qg))]
  refine (KL u.low ⟨-1000,1⟩ I hu.1 (whIn (by omega))).mono ?_
  rintro x wx ⟨rfl,hb⟩
  exact (D _ _ (H.k.call hb) (XA qg).symm trivial)
 ·intro R M I H _ _ D
  refine KZ rfl rfl rfl (H.d 3 rfl rfl) (fun qg=>D _ _ H.k (XM qg).symm trivial) fun qg=>?_
  exact Yc rfl (ev ((H.d 7 rfl rfl).trans (XA qg))) rfl rfl rfl (D _ _ H.k (XA qg).symm trivial)
 ·exact oPOT 3 8 rfl rfl rfl rfl rfl rfl
 ·exact Jj 9 rfl rfl rfl rfl
 ·intro R M I H _ _ D
  refine KZ rfl rfl rfl (H.d 10 rfl rfl) (fun qg=>D _ _ H.k (XM qg).symm trivial) fun qg=>?_
  simp [go_sem,H.f.g rfl s1]
  exact (D _ _ H.k (XA qg).symm trivial)
 ·intro R M I H _ _ D
  refine KZ rfl rfl rfl (H.d 10 rfl rfl) (fun qg=>D _ _ H.k (XM qg).symm trivial) fun qg=>?_
  simp [go_sem,(show M.tmps[14]?.getD undef=_ from (H.d 11 rfl rfl).trans (XA qg)),(b3.k0 H.k).cell]
  exact (D _ _ H.k (XA qg).symm trivial)
 ·intro R M I H _ _ D
  refine KZ rfl rfl rfl (H.d 10 rfl rfl) (fun qg=>D _ _ H.k (XM qg).symm trivial) fun qg=>?_
  simp [go_sem]
  refine (sWhole_c 1000 I (by omega)).mono ?_
  rintro x wx ⟨rfl,hb⟩
  exact (D _ _ (H.k.call hb) (XA qg).symm trivial)
 ·intro R M I H _ _ D
  refine KZ rfl rfl rfl (H.d 10 rfl rfl) (fun qg=>D _ _ H.k (XM qg).symm trivial) fun qg=>?_
  simp [go_sem,(show M.tmps[15]?.getD undef=_ from (H.d 12 rfl rfl).trans (XA qg)),(show M.tmps[16]?.getD undef=_ from (H.d 13 rfl rfl).trans (XA qg))]
  refine (KL u.high ⟨1000,1⟩ I hu.2 (whIn (by omega))).mono ?_
  rintro x wx ⟨rfl,hb⟩
  exact (D _ _ (H.k.call hb) (XA qg).symm trivial)
 ·intro R M I H _ _ D
  refine KZ rfl rfl rfl (H.d 10 rfl rfl) (fun qg=>D _ _ H.k (XM qg).symm trivial) fun qg=>?_
  exact Yc rfl (ev ((H.d 14 rfl rfl).trans (XA qg))) rfl rfl rfl (D _ _ H.k (XA qg).symm trivial)
 ·exact oPOT 10 15 rfl rfl rfl rfl rfl rfl
 intro L a4 w5 U B C K T;replace J:=B.Z J;replace F:=B.E F;replace s1:=B.G s1;have s19:=gS a4 19 (K 16 _ rfl);replace b3:=b3.k0 C;replace S:=Nat.le_trans S C.size;replace O:=C.below0 O;clear B C K U T;refine Xj ?_
 rcases Bool.eq_false_or_eq_true ((!(Xv u)||decide (Xq u.low ⟨-1000,1⟩<0))||decide (Xq u.high ⟨1000,1⟩ > 0)) with q6|q6
 ·refine wp_cond_true (ev (vb s19 q6)) ?_
  refine wp_seq ?_
  refine Xe (by kernel_rfl) [2] [some (.int .i64 0)] (X7 1) [2] [0] [] (fun _ _ _=>True) (by kernel_rfl) (by rw [J];decide) ?_ (en rfl ?_ .nil) ?_
  ·exact fun _ _=>trivial
  ·exact Kk rfl rfl
  intro L a7 w8 U B C K T;replace J:=B.Z J;replace F:=B.E F;have s2:=gS a7 2 (K 0 _ rfl);replace S:=Nat.le_trans S C.size;replace O:=C.below0 O;clear B C K U T s1 s19 b3;refine Xj (wp_ret (YY ?_))
  refine bodyPost_ret (v:=.int .i64 0) (by simp [results,Tryz.results94,go_sem,s2]) F ?_
  exact ⟨by rw [who_s_no q6],O⟩
 ·have hbd:=who_bd (Zv (KB (KB q6)))
  refine wp_cond_false (ev (vb s19 q6)) ?_
  refine wp_skip (Xj (wp_seq ?_))
  refine Xe (by kernel_rfl) [20,21,22,23,24,25,26,27,28,2] [some (.pointer (some ⟨w.heap.size,2,none⟩)),some (.agg #[.int .i64 u.high.n,.int .i64 u.high.d]),some (.int .i64 (Yp u.high)),some (.pointer (some ⟨w.heap.size,0,none⟩)),some (.agg #[.int .i64 u.low.n,.int .i64 u.low.d]),some (.int .i64 (YL u.low)),some (.int .i64 ((Yp u.high)-(YL u.low))),some (.int .i64 (((Yp u.high)-(YL u.low))+1)),some (.int .i64 (max 0 (((Yp u.high)-(YL u.low))+1))),some (.int .i64 (max 0 (((Yp u.high)-(YL u.low))+1)))] ([[],[0],[0,1],[],[3],[0,1,2,3,4],[0,1,2,3,4,5],[0,1,2,3,4,5,6],[0,1,2,3,4,5,6,7],[0,1,2,3,4,5,6,7,8]]) [20,21,22,23,24,25,26,27,28,2] [0,1,2,3,4,5,6,7,8,9] [] (fun _ _ _=>True) (by kernel_rfl) (by rw [J];decide) ?_ (en rfl ?_ (en rfl ?_ (en rfl ?_ (en rfl ?_ (en rfl ?_ (en rfl ?_ (en rfl ?_ (en rfl ?_ (en rfl ?_ (en rfl ?_ .nil)))))))))) ?_
  ·exact fun _ _=>trivial
  ·intro R M I H _ _ D
   simp [go_sem,H.f.g rfl s1]
   exact (D _ _ H.k rfl trivial)
  ·intro R M I H _ _ D
   simp [go_sem,(gS M 20 (H.d 0 rfl rfl)),(b3.k0 H.k).cell]
   exact (D _ _ H.k rfl trivial)
  ·intro R M I H _ _ D
   simp [go_sem,(gS M 21 (H.d 1 rfl rfl))]
   refine (sRatFloor_c u.high I hu.2).mono ?_
   rintro x wx ⟨rfl,hb⟩
   exact (D _ _ (H.k.call hb) rfl trivial)
  ·intro R M I H _ _ D
   simp [go_sem,H.f.g rfl s1]
   exact (D _ _ H.k rfl trivial)
  ·intro R M I H _ _ D
   simp [go_sem,(gS M 23 (H.d 3 rfl rfl)),(b3.k0 H.k).cell]
   exact (D _ _ H.k rfl trivial)
  ·intro R M I H _ _ D
   simp [go_sem,(gS M 24 (H.d 4 rfl rfl))]
   refine (sRatCeil_c u.low I hu.1).mono ?_
   rintro x wx ⟨rfl,hb⟩
   exact (D _ _ (H.k.call hb) rfl trivial)
  ·exact fun R M I H _ _ D=>wp_sub rfl (ev (H.d 2 rfl rfl)) (ev (H.d 5 rfl rfl)) (by omega) (D _ _ H.k rfl trivial)
  ·exact fun R M I H _ _ D=>ZY rfl (ev (H.d 6 rfl rfl)) rfl (by omega) (D _ _ H.k rfl trivial)
  ·intro R M I H _ _ D
   simp [go_sem,(gS M 27 (H.d 7 rfl rfl))]
   exact (D _ _ H.k rfl trivial)
  ·exact Ke 8 rfl rfl rfl rfl
  intro L a9 w10 U B C K T;replace J:=B.Z J;replace F:=B.E F;have s2:=gS a9 2 (K 9 _ rfl);replace S:=Nat.le_trans S C.size;replace O:=C.below0 O;clear B C K U T s1 s19 b3;refine Xj (wp_ret ?_)
  refine bodyPost_ret (v:=.int .i64 (max 0 (((Yp u.high)-(YL u.low))+1))) (by simp [results,Tryz.results94,go_sem,s2]) F ?_
  exact ⟨by rw [who_s_yes q6],O⟩
set_option maxRecDepth 100000 in
set_option maxHeartbeats 3000000 in
theorem iSafe_c (r:XN) (l:List ZJ) (p:List Half) (s:XJ) (ra:Yr) (e:ZR) (b:ZR) (w:World) (hn:Xk r≤1048576) (hin:Za r) (hlin:∀ m∈l,m.In) (hs:Yo w r ra) (hnl:Y5 ra) (hlp:p.length≤1048576) (hpi:∀ h∈p,h.In) (hll:l.length≤1048576) (hsl:Sl 2 ZD w e.A l) (hsp:Sl 3 Xr w b.A p) (hnb:b.A=none→b.c=0) (hsi:s.In) :
 Calls Tryz.prog 22 #[XH r ra,.slice e.A l.length e.c,.agg #[.slice b.A p.length b.c],Yz s] w fun x w'=>∃ v,x=.returned v∧XY 3 1 YP w' w.heap.size v (Ji r l p s)∧Below w.heap.size w w':=by
 obtain ⟨i0n,hi0n,hz0n,hz1n,hz2n⟩:=info_parts (show (Tryz.prog.info? 3).map (fun i=>(i.zero,i.size,i.bytes))=some (some (.int .i64 0),1,8) by kernel_rfl)
 refine Y4 Tryz.func22 rfl (n:=41) Tryz.ntmps22 (by simp) ?_
 intro a0 J F ha
 have s0:a0.tmps[0]?.getD undef=XH r ra:=ha 0 _ rfl;have s1:a0.tmps[1]?.getD undef=.slice e.A l.length e.c:=ha 1 _ rfl;have s2:a0.tmps[2]?.getD undef=.agg #[.slice b.A p.length b.c]:=ha 2 _ rfl;have s3:a0.tmps[3]?.getD undef=Yz s:=ha 3 _ rfl;clear ha
 have O:=Below.refl w.heap.size w
 have S:=Nat.le_refl w.heap.size
 refine wp_seq ?_
 refine YK [4,6,7,8] [.pointer (some ⟨w.heap.size,0,none⟩),.pointer (some ⟨(w.heap.size+1),0,none⟩),.pointer (some ⟨(w.heap.size+2),0,none⟩),.slice none 0 0] [some (.cells (Y6 r ra).toArray 39),some (.cells [.slice b.A p.length b.c].toArray 37),some (.cells [.int .i64 s.x,.int .i64 s.y,.int .i64 s.d].toArray 44),none] [0,1,2,3] [4,6,7,8] [0,1,2,3] (by kernel_rfl) (by rw [J];decide) (ec ?_ (ec ?_ (ec ?_ (ec ?_ .nil)))) ?_
 ·intro a w' B hs N Q D;simp [go_sem,B.g rfl s0];rw [hs];exact D
 ·intro a w' B hs N Q D;simp [go_sem,B.g rfl s2];rw [hs];exact D
 ·intro a w' B hs N Q D;simp [go_sem,B.g rfl s3];rw [hs];exact D
 ·intro a w' B hs N Q D;simp [go_sem];exact D
 intro a1 w2 B K hb hO
 replace J:=B.size.trans J;replace F:=B.defers.trans F;replace s1:=B.g rfl s1
 have s4:a1.tmps[4]?.getD undef=.pointer (some ⟨w.heap.size,0,none⟩):=K 0 (by decide)
 have s6:a1.tmps[6]?.getD undef=.pointer (some ⟨(w.heap.size+1),0,none⟩):=K 1 (by decide)
 have s7:a1.tmps[7]?.getD undef=.pointer (some ⟨(w.heap.size+2),0,none⟩):=K 2 (by decide)
 have b3:Xy w2 w.heap.size 39 (Y6 r ra):=hO 0 _ rfl
 have b4:Xy w2 (w.heap.size+1) 37 [.slice b.A p.length b.c]:=hO 1 _ rfl
 have b5:Xy w2 (w.heap.size+2) 44 [.int .i64 s.x,.int .i64 s.y,.int .i64 s.d]:=hO 2 _ rfl
 have hG:=b5.lt
 replace O:=Xh O hb;have zw2:=Nat.le_trans S hb.size;replace S:=Nat.le_refl w2.heap.size;clear B K hb hO s0 s2 s3;refine Xj (wp_seq (wp_seq ?_))
 refine Xe (by kernel_rfl) [14,15,16,17] [some (XH r ra),some (.slice e.A l.length e.c),some (.bool (YI r l)),some (.bool (!(YI r l)))] (X7 4) [14,15,16,17] [0,1,2,3] [] (fun _ _ _=>True) (by kernel_rfl) (by rw [J];decide) ?_ (en rfl ?_ (en rfl ?_ (en rfl ?_ (en rfl ?_ .nil)))) ?_
 ·exact fun _ _=>trivial
 ·intro R M I H _ _ D
  simp [go_sem,H.f.g rfl s4,(b3.k0 H.k).cell]
  exact (D _ _ H.k rfl trivial)
 ·exact YA s1 rfl rfl rfl
 ·intro R M I H _ _ D
  simp [go_sem,(gS M 14 (H.d 0 rfl rfl)),(gS M 15 (H.d 1 rfl rfl))]
  have hBi:=H.k.below0 O
  refine (iModesOk_c r ra e.A l e.c I hn hin hll (hs.below hBi) hnl (hsl.below hBi)).mono ?_
  rintro x wx ⟨rfl,hb⟩
  exact (D _ _ (H.k.call hb) rfl trivial)
 ·exact Jn 2 rfl rfl rfl rfl
 intro L a6 w7 U B C K T;replace J:=B.Z J;replace F:=B.E F;replace s1:=B.G s1;replace s4:=B.G s4;replace s6:=B.G s6;replace s7:=B.G s7;have s17:=gS a6 17 (K 3 _ rfl);replace b3:=b3.k0 C;replace b4:=b4.k0 C;replace b5:=b5.k0 C;replace S:=Nat.le_trans S C.size;replace O:=C.below0 O;clear B C K U T;refine Xj ?_
 rcases Bool.eq_false_or_eq_true (!(YI r l)) with q8|q8
 ·refine wp_cond_true (ev (vb s17 q8)) ?_
  refine wp_seq ?_
  refine Xe (by kernel_rfl) [8] [some (.slice none 0 0)] (X7 1) [8] [0] [] (fun _ _ _=>True) (by kernel_rfl) (by rw [J];decide) ?_ (en rfl ?_ .nil) ?_
  ·exact fun _ _=>trivial
  ·exact Kk rfl rfl
  intro L a9 w10 U B C K T;replace J:=B.Z J;replace F:=B.E F;have s8:=gS a9 8 (K 0 _ rfl);replace S:=Nat.le_trans S C.size;replace O:=C.below0 O;clear B C K U T s1 s4 s6 s7 s17 b3 b4 b5;refine Xj (wp_ret (YY ?_))
  refine bodyPost_ret (v:=.slice none 0 0) (by simp [results,Tryz.results22,go_sem,s8]) F ?_
  have h0:=sf_no (p:=p) (s:=s) (not_t q8)
  exact ⟨_,rfl,by rw [h0];exact XY.nilN _ _ _ _ _,O⟩
 ·have hm:=Zv q8
  have hl4:=(modes_room hm).2.2
  have hm4:=modes_map hm
  refine wp_cond_false (ev (vb s17 q8)) ?_
  refine wp_skip (Xj (wp_seq ?_))
  refine Xe (by kernel_rfl) [9] [some (.slice none 0 0)] (X7 1) [9] [0] [] (fun _ _ _=>True) (by kernel_rfl) (by rw [J];decide) ?_ (en rfl ?_ .nil) ?_
  ·exact fun _ _=>trivial
  ·exact Kk rfl rfl
  intro L a11 w12 U B C K T;replace J:=B.Z J;replace F:=B.E F;replace s1:=B.G s1;replace s4:=B.G s4;replace s6:=B.G s6;replace s7:=B.G s7;have s9:=gS a11 9 (K 0 _ rfl);replace b3:=b3.k0 C;replace b4:=b4.k0 C;replace b5:=b5.k0 C;replace S:=Nat.le_trans S C.size;replace O:=C.below0 O;clear B C K U T s17;refine Xj (wp_seq (wp_seq ?_))
  refine Xe (by kernel_rfl) [18,19,20] [some (.slice e.A l.length e.c),some (.int .i64 (l.length:Int)),some (.int .i64 0)] (X7 3) [18,19,20] [0,1,2] [] (fun _ _ _=>True) (by kernel_rfl) (by rw [J];decide) ?_ (en rfl ?_ (en rfl ?_ (en rfl ?_ .nil))) ?_
  ·exact fun _ _=>trivial
  ·exact YA s1 rfl rfl rfl
  ·intro R M I H _ _ D
   simp [go_sem,(gS M 18 (H.d 0 rfl rfl))]
   exact (D _ _ H.k rfl trivial)
  ·exact oMCT rfl rfl
  intro L a13 w14 U B C K T;replace J:=B.Z J;replace F:=B.E F;replace s4:=B.G s4;replace s6:=B.G s6;replace s7:=B.G s7;replace s9:=B.G s9;have s18:=gS a13 18 (K 0 _ rfl);have s19:=gS a13 19 (K 1 _ rfl);have s20:=gS a13 20 (K 2 _ rfl);replace b3:=b3.k0 C;replace b4:=b4.k0 C;replace b5:=b5.k0 C;replace S:=Nat.le_trans S C.size;replace O:=C.below0 O;clear B C K U T s1;refine Xj (wp_block ?_)
  refine wp_loop (fun al wl=>al.tmps.size=41∧al.defers=[]∧∃ (k:Nat) (A1:Option Addr) (c1:Nat),(k≤l.length)∧al.tmps[4]?.getD undef=.pointer (some ⟨w.heap.size,0,none⟩)∧al.tmps[6]?.getD undef=.pointer (some ⟨(w.heap.size+1),0,none⟩)∧al.tmps[7]?.getD undef=.pointer (some ⟨(w.heap.size+2),0,none⟩)∧al.tmps[9]?.getD undef=.slice A1 ((sfK r l p s k).length) c1∧al.tmps[18]?.getD undef=.slice e.A l.length e.c∧al.tmps[19]?.getD undef=.int .i64 (l.length:Int)∧al.tmps[20]?.getD undef=.int .i64 (k:Int)∧Xy wl w.heap.size 39 (Y6 r ra)∧Xy wl (w.heap.size+1) 37 [.slice b.A p.length b.c]∧Xy wl (w.heap.size+2) 44 [.int .i64 s.x,.int .i64 s.y,.int .i64 s.d]∧XY 3 1 YP wl w2.heap.size (.slice A1 (sfK r l p s k).length c1) (sfK r l p s k)∧Below w.heap.size w wl∧w2.heap.size≤wl.heap.size) (fun al _=>(l.length-(intOf (al.tmps[20]?.getD undef)).toNat)) ?_ ?_
  ·exact ⟨J,F,(0),(none),(0),(Nat.zero_le _),s4,s6,s7,s9,s18,s19,s20,b3,b4,b5,(XY.nilN _ _ _ _ _),O,(by omega)⟩
  clear J F O S s4 s6 s7 s9 s18 s19 s20 b3 b4 b5
  rintro a15 w16 ⟨J,F,k,A1,c1,hk,s4,s6,s7,s9,s18,s19,s20,b3,b4,b5,N1,O,S⟩
  have zw16:=S;replace S:=Nat.le_refl w16.heap.size;have i1:∀ p,A1=some p→p.block<w16.heap.size:=fun p hp=>(N1.blk p hp).2
  have hmu:(l.length-(intOf (a15.tmps[20]?.getD undef)).toNat)=(l.length-(intOf ((.int .i64 (k:Int)))).toNat):=by rw [s20]
  refine wp_seq ?_
  refine Xe (by kernel_rfl) [21] [some (.bool (decide ((k:Int)<(l.length:Int))))] (X7 1) [21] [0] [] (fun _ _ _=>True) (by kernel_rfl) (by rw [J];decide) ?_ (en rfl ?_ .nil) ?_
  ·exact fun _ _=>trivial
  ·exact fun R M I H _ _ D=>Yc rfl (ev (H.f.g rfl s20)) (ev (H.f.g rfl s19)) rfl rfl (D _ _ H.k rfl trivial)
  intro L a17 w18 U B C K T;replace J:=B.Z J;replace F:=B.E F;replace s4:=B.G s4;replace s6:=B.G s6;replace s7:=B.G s7;replace s9:=B.G s9;replace s18:=B.G s18;replace s19:=B.G s19;replace s20:=B.G s20;have s21:=gS a17 21 (K 0 _ rfl);replace b3:=b3.k0 C;replace b4:=b4.k0 C;replace b5:=b5.k0 C;replace N1:=N1.below C.toBelow Xu;replace S:=Nat.le_trans S C.size;replace O:=C.below0 O;clear B C K U T;refine Xj (wp_seq ?_)
  rcases Bool.eq_false_or_eq_true (decide ((k:Int)<(l.length:Int))) with q19|q19
  ·have hkl:k<l.length:=by have:=Ki q19;omega
   obtain ⟨bl,ol,el,fe⟩:=ElS.open_ (hsl.below O) (by omega)
   refine wp_cond_true (ev (vb s21 q19)) ?_
   refine wp_skip (Xj (wp_seq (wp_block (wp_seq ?_))))
   have P:XI [11] (fun L aa I=>(L 3=true→Ye w18 aa I 11 132 [.int .i64 0,.int .i64 0] (L 5) (fun _ vs=>vs=[.int .i64 ((l.getD k Xw).low),.int .i64 ((l.getD k Xw).high)]))):=by
    intro L aa I w' kk vv hkk hb T
    have x0:=T
    exact (fun h=>((x0 h).bel hb (fun _ h=>h)).put (hkk 11 (by simp)) _)
   refine Xx P (by kernel_rfl) [22,23,24,11,10,0] [some (.int .i64 (k:Int)),some (.pointer (some ⟨bl,ol+k*2,none⟩)),some (.agg #[.int .i64 ((l.getD k Xw).low),.int .i64 ((l.getD k Xw).high)]),none,some (.int .i64 (k:Int)),none] (X7 6) [22,23,24,11,10] [0,1,2,3,4,5] [] (by kernel_rfl) (by rw [J];decide) ?_ (en rfl ?_ (en rfl ?_ (en rfl ?_ (en rfl ?_ (en rfl ?_ (en rfl ?_ .nil)))))) ?_
   ·exact fun _ h=>(fun h=>by cases h)
   ·exact Kn s20 rfl rfl rfl fun _ _ _ _=>P.q rfl
   ·intro R M I H _ _ D
    simp [go_sem,H.f.g rfl s18,H.f.g rfl s20,hkl,el]
    exact (D _ _ H.k rfl (P.q rfl H.x))
   ·intro R M I H _ _ D
    have hE:=fe.kp H.k (by simp)
    simp [go_sem,(gS M 23 (H.d 1 rfl rfl)),(hE.at_ Xw (i:=k) (by omega) 0 (p:=ol+k*2) (by omega) rfl),(hE.at_ Xw (i:=k) (by omega) 1 (p:=ol+k*2+1) (by omega) rfl)]
    exact (D _ _ H.k rfl (P.q rfl H.x))
   ·intro R M I H _ _ D
    have x0:=H.x
    simp [go_sem]
    exact D _ _ (H.k.alloc _) trivial (fun _=>by rw [show ZB R 3 5=false from H.t 5 rfl];exact Ye.new (s:=11) (H.f.lt (by rw [J];decide)) H.k.size [.int .i64 0,.int .i64 0])
   ·exact JC 0 rfl rfl rfl rfl fun _ _ _ _=>P.q rfl
   ·intro R M I H _ _ D
    have x0:=H.x
    obtain ⟨g,eg,hg,y,_⟩:=x0 (H.r 3 rfl)
    have V:=y H.n
    simp [go_sem,(gS M 24 (H.d 2 rfl rfl)),eg,V.cell,V.frz]
    exact D undef _ (H.k.store (.inl hg) [.int .i64 ((l.getD k Xw).low),.int .i64 ((l.getD k Xw).high)] 0) trivial (fun _=>Ye.set eg hg V (us:=[.int .i64 ((l.getD k Xw).low),.int .i64 ((l.getD k Xw).high)]) rfl rfl)
   intro L a20 w21 U B C K T;have x0:=T;replace J:=B.Z J;replace F:=B.E F;replace s4:=B.G s4;replace s6:=B.G s6;replace s7:=B.G s7;replace s9:=B.G s9;replace s18:=B.G s18;replace s19:=B.G s19;replace s20:=B.G s20;have s10:=gS a20 10 (K 4 _ rfl);replace b3:=b3.k0 C;replace b4:=b4.k0 C;replace b5:=b5.k0 C
   obtain ⟨g22,s11,lg22,-,b22⟩:=x0 (U 3 (by decide))
   obtain ⟨_,b22,rfl⟩:=b22 (U 5 (by decide))
   have ug22:=b22.lt
   replace N1:=N1.below C.toBelow Xu;have zw18:=S;have zw21:=C.size;replace S:=Nat.le_refl w21.heap.size;replace O:=C.below0 O;clear B C K U x0 P s21 fe;refine Xj (wp_seq ?_)
   have P:XI [12,28] (fun L aa I=>(L 2=true→(fun I v=>∃ m2,v=XH (ZG r (l.getD k Xw)) m2∧X0 I w21.heap.size (ZG r (l.getD k Xw)) m2) I (aa.tmps[28]?.getD undef))∧(L 9=true→Ye w21 aa I 12 72 [.int .i64 0,.int .i64 0,.int .i64 0,.int .i64 0] (L 10) (fun _ vs=>vs=[.int .i64 (((XO (ZG r (l.getD k Xw)) p s).getD Xd).low.n),.int .i64 (((XO (ZG r (l.getD k Xw)) p s).getD Xd).low.d),.int .i64 (((XO (ZG r (l.getD k Xw)) p s).getD Xd).high.n),.int .i64 (((XO (ZG r (l.getD k Xw)) p s).getD Xd).high.d)]))):=by
    intro L aa I w' kk vv hkk hb T
    obtain ⟨x0,x1⟩:=T
    exact ⟨(fun h=>by rw [Xb (hkk 28 (by simp))];obtain ⟨m2',e,f2'⟩:=x0 h;exact ⟨m2',e,f2'.below hb Xu⟩),(fun h=>((x1 h).bel hb (fun _ h=>h)).put (hkk 12 (by simp)) _)⟩
   refine Xx P (by kernel_rfl) [26,27,28,29,30,31,25,32,33,12,0,13] [some (XH r ra),some (.agg #[.int .i64 ((l.getD k Xw).low),.int .i64 ((l.getD k Xw).high)]),none,some (.agg #[.slice b.A p.length b.c]),some (Yz s),some (.tuple #[Yf ((XO (ZG r (l.getD k Xw)) p s).getD Xd),.bool ((XO (ZG r (l.getD k Xw)) p s).isSome)]),some (.tuple #[Yf ((XO (ZG r (l.getD k Xw)) p s).getD Xd),.bool ((XO (ZG r (l.getD k Xw)) p s).isSome)]),some (Yf ((XO (ZG r (l.getD k Xw)) p s).getD Xd)),some (.bool ((XO (ZG r (l.getD k Xw)) p s).isSome)),none,none,some (.bool ((XO (ZG r (l.getD k Xw)) p s).isSome))] ([[],[],[0,1],[],[],[0,1,2,3,4],[0,1,2,3,4,5],[0,1,2,3,4,5,6],[0,1,2,3,4,5,6],[],[0,1,2,3,4,5,6,7,9],[0,1,2,3,4,5,6,7,8,9,10]]) [26,27,28,29,30,31,25,32,33,12,13] [0,1,2,3,4,5,6,7,8,9,10,11] [] (by kernel_rfl) (by rw [J];decide) ?_ (en rfl ?_ (en rfl ?_ (en rfl ?_ (en rfl ?_ (en rfl ?_ (en rfl ?_ (en rfl ?_ (en rfl ?_ (en rfl ?_ (en rfl ?_ (en rfl ?_ (en rfl ?_ .nil)))))))))))) ?_
   ·exact fun _ h=>⟨(fun h=>by cases h),(fun h=>by cases h)⟩
   ·intro R M I H _ _ D
    simp [go_sem,H.f.g rfl s4,(b3.k0 H.k).cell]
    exact (D _ _ H.k rfl (P.q rfl H.x))
   ·intro R M I H _ _ D
    simp [go_sem,H.f.g rfl s11,(b22.k0 H.k).cell]
    exact (D _ _ H.k rfl (P.q rfl H.x))
   ·intro R M I H _ _ D
    obtain ⟨x0,x1⟩:=H.x
    simp [go_sem,(gS M 26 (H.d 0 rfl rfl)),(gS M 27 (H.d 1 rfl rfl))]
    have hBi:=H.k.below0 O
    refine (iInMode_c r ra (l.getD k Xw) I hn (hs.below hBi)).mono ?_
    rintro x wx ⟨m2,rfl,f0,hb⟩
    have f2:=f0.mono H.k.size
    exact (D _ _ (H.k.call hb) trivial ⟨(fun _=>by rw [Xc (H.f.lt (by rw [J];decide))];exact ⟨m2,rfl,f2⟩),(fun h=>((x1 h).bel hb (fun _ h=>h)).put (by decide) _)⟩)
   ·intro R M I H _ _ D
    simp [go_sem,H.f.g rfl s6,(b4.k0 H.k).cell]
    exact (D _ _ H.k rfl (P.q rfl H.x))
   ·intro R M I H _ _ D
    simp [go_sem,H.f.g rfl s7,(b5.k0 H.k).cell]
    exact (D _ _ H.k rfl (P.q rfl H.x))
   ·intro R M I H _ _ D
    obtain ⟨x0,x1⟩:=H.x
    obtain ⟨m2,ee2,f2⟩:=x0 (H.r 2 rfl)
    simp [go_sem,ee2,(gS M 29 (H.d 3 rfl rfl)),(gS M 30 (H.d 4 rfl rfl))]
    have hBi:=H.k.below0 O
    refine (iAdmAt_c (ZG r (l.getD k Xw)) p s m2 b I hn (inM_in hin (hlin _ (Jk hkl Xw))) f2.sl f2.nil hlp hpi (hsp.below hBi) hnb hsi).mono ?_
    rintro x wx ⟨rfl,hb⟩
    exact (D _ _ (H.k.call hb) (YQ _) (P.b rfl hb H.x))
   ·exact oMDX 5 rfl rfl rfl rfl fun _ _ _ _=>P.q rfl
   ·exact Jp 6 rfl rfl rfl rfl rfl fun _ _ _ _=>P.q rfl
   ·exact Jp 6 rfl rfl rfl rfl rfl fun _ _ _ _=>P.q rfl
   ·intro R M I H _ _ D
    obtain ⟨x0,x1⟩:=H.x
    simp [go_sem]
    exact D _ _ (H.k.alloc _) trivial ⟨(fun h=>by rw [Xb (by decide)];obtain ⟨m2',e,f2'⟩:=x0 h;exact ⟨m2',e,f2'.below (Xm bR _) Xu⟩),(fun _=>by rw [show ZB R 9 10=false from H.t 10 rfl];exact Ye.new (s:=12) (H.f.lt (by rw [J];decide)) H.k.size [.int .i64 0,.int .i64 0,.int .i64 0,.int .i64 0])⟩
   ·intro R M I H _ _ D
    obtain ⟨x0,x1⟩:=H.x
    obtain ⟨g,eg,hg,y,_⟩:=x1 (H.r 9 rfl)
    have V:=y H.n
    simp [go_sem,(gS M 32 (H.d 7 rfl rfl)),eg,V.cell,V.frz]
    exact D undef _ (H.k.store (.inl hg) [.int .i64 (((XO (ZG r (l.getD k Xw)) p s).getD Xd).low.n),.int .i64 (((XO (ZG r (l.getD k Xw)) p s).getD Xd).low.d),.int .i64 (((XO (ZG r (l.getD k Xw)) p s).getD Xd).high.n),.int .i64 (((XO (ZG r (l.getD k Xw)) p s).getD Xd).high.d)] 0) trivial ⟨(fun h=>by obtain ⟨m2',e,f2'⟩:=x0 h;exact ⟨m2',e,f2'.otherT V (by decide) (by decide) [.int .i64 (((XO (ZG r (l.getD k Xw)) p s).getD Xd).low.n),.int .i64 (((XO (ZG r (l.getD k Xw)) p s).getD Xd).low.d),.int .i64 (((XO (ZG r (l.getD k Xw)) p s).getD Xd).high.n),.int .i64 (((XO (ZG r (l.getD k Xw)) p s).getD Xd).high.d)] 0⟩),(fun _=>Ye.set eg hg V (us:=[.int .i64 (((XO (ZG r (l.getD k Xw)) p s).getD Xd).low.n),.int .i64 (((XO (ZG r (l.getD k Xw)) p s).getD Xd).low.d),.int .i64 (((XO (ZG r (l.getD k Xw)) p s).getD Xd).high.n),.int .i64 (((XO (ZG r (l.getD k Xw)) p s).getD Xd).high.d)]) rfl rfl)⟩
   ·exact JC 8 rfl rfl rfl rfl fun _ _ _ _=>P.q rfl
   intro L a23 w24 U B C K T
   obtain ⟨x0,x1⟩:=T
   replace J:=B.Z J;replace F:=B.E F;replace s4:=B.G s4;replace s6:=B.G s6;replace s7:=B.G s7;replace s9:=B.G s9;replace s18:=B.G s18;replace s19:=B.G s19;replace s20:=B.G s20;replace s10:=B.G s10;have s13:=gS a23 13 (K 11 _ rfl);replace b3:=b3.k0 C;replace b4:=b4.k0 C;replace b5:=b5.k0 C
   obtain ⟨g25,s12,lg25,-,b25⟩:=x1 (U 9 (by decide))
   obtain ⟨_,b25,rfl⟩:=b25 (U 10 (by decide))
   have ug25:=b25.lt
   replace N1:=N1.below C.toBelow Xu;have zw24:=C.size;replace S:=Nat.le_refl w24.heap.size;replace O:=C.below0 O;clear B C K U x0 x1 P s11 b22;refine Xj (wp_seq ?_)
   refine Xe (by kernel_rfl) [34] [some (.bool ((XO (ZG r (l.getD k Xw)) p s).isSome))] (X7 1) [34] [0] [] (fun _ _ _=>True) (by kernel_rfl) (by rw [J];decide) ?_ (en rfl ?_ .nil) ?_
   ·exact fun _ _=>trivial
   ·exact YA s13 rfl rfl rfl
   intro L a26 w27 U B C K T;replace J:=B.Z J;replace F:=B.E F;replace s4:=B.G s4;replace s6:=B.G s6;replace s7:=B.G s7;replace s9:=B.G s9;replace s18:=B.G s18;replace s19:=B.G s19;replace s20:=B.G s20;replace s10:=B.G s10;have s34:=gS a26 34 (K 0 _ rfl);replace b3:=b3.k0 C;replace b4:=b4.k0 C;replace b5:=b5.k0 C;replace N1:=N1.below C.toBelow Xu;replace S:=Nat.le_trans S C.size;replace O:=C.below0 O;clear B C K U T s13 s12 b25;refine Xj ?_
   rcases Bool.eq_false_or_eq_true ((XO (ZG r (l.getD k Xw)) p s).isSome) with q28|q28
   ·refine wp_cond_true (ev (vb s34 q28)) ?_
    have P:XI [9,37,38] (fun L aa I=>(L 2=true→(fun I v=>∃ g3,v=.slice (some ⟨g3,0,none⟩) 1 1∧Xy I g3 3 [.int .i64 (k:Int)]∧w27.heap.size≤g3) I (aa.tmps[37]?.getD undef))∧(L 3=true→(fun I v=>∃ A4 c4,v=.slice A4 (((sfK r l p s k)++[(k:Int)]).length) c4∧XY 3 1 YP I w2.heap.size (.slice A4 ((sfK r l p s k)++[(k:Int)]).length c4) ((sfK r l p s k)++[(k:Int)])) I (aa.tmps[38]?.getD undef))∧(L 4=true→(fun I v=>∃ A4 c4,v=.slice A4 (((sfK r l p s k)++[(k:Int)]).length) c4∧XY 3 1 YP I w2.heap.size (.slice A4 ((sfK r l p s k)++[(k:Int)]).length c4) ((sfK r l p s k)++[(k:Int)])) I (aa.tmps[9]?.getD undef))∧(L 3=false→XY 3 1 YP I w2.heap.size (.slice A1 (sfK r l p s k).length c1) (sfK r l p s k))∧(L 4=false→aa.tmps[9]?.getD undef=.slice A1 ((sfK r l p s k).length) c1)):=by
     intro L aa I w' kk vv hkk hb T
     obtain ⟨x0,x1,x2,x3,x4⟩:=T
     exact ⟨(fun h=>by rw [Xb (hkk 37 (by simp))];obtain ⟨g3',e,f3'⟩:=x0 h;exact ⟨g3',e,⟨f3'.1.bel hb,f3'.2⟩⟩),(fun h=>by rw [Xb (hkk 38 (by simp))];obtain ⟨A4',c4',e,f4'⟩:=x1 h;exact ⟨A4',c4',e,f4'.below hb Xu⟩),(fun h=>by rw [Xb (hkk 9 (by simp))];obtain ⟨A4',c4',e,f4'⟩:=x2 h;exact ⟨A4',c4',e,f4'.below hb Xu⟩),(fun h=>(x3 h).below hb Xu),(fun h=>(Xb (hkk 9 (by simp)) vv).trans (x4 h))⟩
    refine Xx P (by kernel_rfl) [35,36,37,38,9] [some (.slice A1 ((sfK r l p s k).length) c1),some (.int .i64 (k:Int)),none,none,none] (X7 5) [35,36,37,38,9] [0,1,2,3,4] (blkL A1) (by kernel_rfl) (by rw [J];decide) ?_ (en rfl ?_ (en rfl ?_ (en rfl ?_ (en rfl ?_ (en rfl ?_ .nil))))) ?_
    ·exact fun _ h=>⟨(fun h=>by cases h),(fun h=>by cases h),(fun h=>by cases h),(fun _=>N1.below h.toBelow Xu),(fun _=>s9)⟩
    ·intro R M I H _ _ D
     obtain ⟨x0,x1,x2,x3,x4⟩:=H.x
     exact XF rfl (ev (x4 (H.t 4 rfl))) (D _ _ H.k rfl (P.q rfl H.x))
    ·exact Kn s10 rfl rfl rfl fun _ _ _ _=>P.q rfl
    ·intro R M I H _ _ D
     obtain ⟨x0,x1,x2,x3,x4⟩:=H.x
     simp [go_sem,(gS M 36 (H.d 1 rfl rfl))]
     have f3:Xy (I.alloc (.cells #[.int .i64 (k:Int)] 3)) I.heap.size 3 [.int .i64 (k:Int)]∧w27.heap.size≤I.heap.size:=⟨Xy.new _ _ _,H.k.size⟩
     exact D _ _ (H.k.alloc _) trivial ⟨(fun _=>by rw [Xc (H.f.lt (by rw [J];decide))];exact ⟨_,rfl,f3⟩),(fun h=>by rw [Xb (by decide)];obtain ⟨A4',c4',e,f4'⟩:=x1 h;exact ⟨A4',c4',e,f4'.below (Xm bR _) Xu⟩),(fun h=>by rw [Xb (by decide)];obtain ⟨A4',c4',e,f4'⟩:=x2 h;exact ⟨A4',c4',e,f4'.below (Xm bR _) Xu⟩),(fun h=>(x3 h).below (Xm bR _) Xu),(fun h=>(Xb (by decide) _).trans (x4 h))⟩
    ·intro R M I H _ _ D
     obtain ⟨x0,x1,x2,x3,x4⟩:=H.x
     obtain ⟨g3,ee2,f3⟩:=x0 (H.r 2 rfl)
     refine wp_app1 Yv rfl w2.heap.size i0n _ 8 Tryz.underlying22 hi0n hz0n hz1n hz2n rfl (by decide) (ev (H.d 0 rfl rfl)) (x3 H.n) (ev ee2) (y:=(k:Int)) f3.1 intC_one (by have:=H.k.size;omega) (by have:=sfK_len r l p s k;omega) (by decide) ?_
     intro A4 c4 wx f4 hG
     exact D _ _ (H.k.trans2 hG (fun m h=>.inl h)) trivial ⟨(fun h=>by rw [Xb (by decide)];obtain ⟨g',e,f'⟩:=x0 h;exact ⟨g',e,f'.1.kp hG (J6 (fun p hp=>by have q1:=N1.blk p hp;have q2:=f'.2;omega)),f'.2⟩),(fun _=>by rw [Xc (H.f.lt (by rw [J];decide))];exact ⟨A4,c4,rfl,f4⟩),(fun h=>absurd (H.t 4 rfl) (by rw [show R 4=true by simpa [ZB] using h];decide)),(fun h=>by simp [ZB] at h),(fun h=>(Xb (by decide) _).trans (x4 h))⟩
    ·intro R M I H _ _ D
     obtain ⟨x0,x1,x2,x3,x4⟩:=H.x
     obtain ⟨A4,c4,ee3,f4⟩:=x1 (H.r 3 rfl)
     exact X1 rfl (ev ee3) (D _ _ H.k trivial ⟨(fun h=>by rw [Xb (by decide)];obtain ⟨g3',e,f3'⟩:=x0 h;exact ⟨g3',e,⟨f3'.1.bel bR,f3'.2⟩⟩),(fun h=>by rw [Xb (by decide)];obtain ⟨A4',c4',e,f4'⟩:=x1 h;exact ⟨A4',c4',e,f4'.below bR Xu⟩),(fun _=>by rw [Xc (H.f.lt (by rw [J];decide))];exact ⟨A4,c4,rfl,f4⟩),(fun h=>(x3 h).below bR Xu),(fun h=>by simp [ZB] at h)⟩)
    intro L a29 w30 U B C K T
    obtain ⟨x0,x1,x2,x3,x4⟩:=T
    replace J:=B.Z J;replace F:=B.E F
    have hB9:=C.below O O.size (fun m hm=>by obtain ⟨p,hp,rfl⟩:=blkL_in hm;have q1:=N1.blk p hp;have q2:=i1 p hp;omega)
    replace s4:=B.G s4;replace s6:=B.G s6;replace s7:=B.G s7;replace s18:=B.G s18;replace s19:=B.G s19;replace s20:=B.G s20
    replace b3:=b3.kp C (J6 (fun p hp=>by have q1:=N1.blk p hp;have q2:=i1 p hp;omega))
    replace b4:=b4.kp C (J6 (fun p hp=>by have q1:=N1.blk p hp;have q2:=i1 p hp;omega))
    replace b5:=b5.kp C (J6 (fun p hp=>by have q1:=N1.blk p hp;have q2:=i1 p hp;omega))
    obtain ⟨A4,c4,s9,N4⟩:=x2 (U 4 (by decide))
    have i4:∀ p,A4=some p→p.block<w30.heap.size:=fun p hp=>(N4.blk p hp).2;have zw27:=S;have zw30:=C.size;replace S:=Nat.le_refl w30.heap.size;replace O:=hB9;clear B C K U x0 x1 x2 x3 x4 P s10 s34 N1 i1;refine J0 (Xj ?_)
    refine Xe (by kernel_rfl) [39,20] [some (.int .i64 ((k:Int)+1)),some (.int .i64 ((k:Int)+1))] (X7 2) [39,20] [0,1] [] (fun L aa I=>(L 1=false→aa.tmps[20]?.getD undef=.int .i64 (k:Int))) (by kernel_rfl) (by rw [J];decide) ?_ (en rfl ?_ (en rfl ?_ .nil)) ?_
    ·exact fun _ h=>(fun _=>s20)
    ·intro R M I H _ _ D
     have x0:=H.x
     exact ZY rfl (ev (x0 (H.t 1 rfl))) rfl (by omega) (D _ _ H.k rfl (fun h=>(Xb (by decide) _).trans (x0 h)))
    ·intro R M I H _ _ D
     have x0:=H.x
     exact XF rfl (ev (H.d 0 rfl rfl)) (D _ _ H.k rfl (fun h=>by simp [ZB] at h))
    intro L a31 w32 U B C K T;have x0:=T;replace J:=B.Z J;replace F:=B.E F;replace s4:=B.G s4;replace s6:=B.G s6;replace s7:=B.G s7;replace s18:=B.G s18;replace s19:=B.G s19;replace s9:=B.G s9;have s20:=gS a31 20 (K 1 _ rfl);replace b3:=b3.k0 C;replace b4:=b4.k0 C;replace b5:=b5.k0 C;replace N4:=N4.below C.toBelow Xu;replace S:=Nat.le_trans S C.size;replace O:=C.below0 O;clear B C K U x0;refine Xj ?_
    refine ⟨?_, ?_⟩
    ·exact ⟨J,F,(k+1),(A4),(c4),(by omega),s4,s6,s7,(by rw [sfK_yes (r:=r) (l:=l) (p:=p) (s:=s) (k:=k) q28];exact s9),s18,s19,s20,b3,b4,b5,(by rw [sfK_yes (r:=r) (l:=l) (p:=p) (s:=s) (k:=k) q28];exact N4),O,(by omega)⟩
    ·show (l.length-(intOf (a31.tmps[20]?.getD undef)).toNat)<_
     rw [s20,hmu];simp only [intOf];omega
   ·refine wp_cond_false (ev (vb s34 q28)) ?_
    refine wp_skip ?_;refine J0 (Xj ?_)
    refine Xe (by kernel_rfl) [39,20] [some (.int .i64 ((k:Int)+1)),some (.int .i64 ((k:Int)+1))] (X7 2) [39,20] [0,1] [] (fun L aa I=>(L 1=false→aa.tmps[20]?.getD undef=.int .i64 (k:Int))) (by kernel_rfl) (by rw [J];decide) ?_ (en rfl ?_ (en rfl ?_ .nil)) ?_
    ·exact fun _ h=>(fun _=>s20)
    ·intro R M I H _ _ D
     have x0:=H.x
     exact ZY rfl (ev (x0 (H.t 1 rfl))) rfl (by omega) (D _ _ H.k rfl (fun h=>(Xb (by decide) _).trans (x0 h)))
    ·intro R M I H _ _ D
     have x0:=H.x
     exact XF rfl (ev (H.d 0 rfl rfl)) (D _ _ H.k rfl (fun h=>by simp [ZB] at h))
    intro L a33 w34 U B C K T;have x0:=T;replace J:=B.Z J;replace F:=B.E F;replace s4:=B.G s4;replace s6:=B.G s6;replace s7:=B.G s7;replace s9:=B.G s9;replace s18:=B.G s18;replace s19:=B.G s19;have s20:=gS a33 20 (K 1 _ rfl);replace b3:=b3.k0 C;replace b4:=b4.k0 C;replace b5:=b5.k0 C;replace N1:=N1.below C.toBelow Xu;replace S:=Nat.le_trans S C.size;replace O:=C.below0 O;clear B C K U x0 s10 s34;refine Xj ?_
    refine ⟨?_, ?_⟩
    ·exact ⟨J,F,(k+1),(A1),(c1),(by omega),s4,s6,s7,(by rw [sfK_no (r:=r) (l:=l) (p:=p) (s:=s) (k:=k) q28];exact s9),s18,s19,s20,b3,b4,b5,(by rw [sfK_no (r:=r) (l:=l) (p:=p) (s:=s) (k:=k) q28];exact N1),O,(by omega)⟩
    ·show (l.length-(intOf (a33.tmps[20]?.getD undef)).toNat)<_
     rw [s20,hmu];simp only [intOf];omega
  ·have ek:k=l.length:=by have:=Xg q19;omega
   refine wp_cond_false (ev (vb s21 q19)) ?_
   refine wp_exit ?_
   refine J7 (J7 (ib_x (Xj (wp_seq ?_))))
   refine Xe (by kernel_rfl) [40,8] [some (.slice A1 ((sfK r l p s k).length) c1),some (.slice A1 ((sfK r l p s k).length) c1)] (X7 2) [40,8] [0,1] [] (fun _ _ _=>True) (by kernel_rfl) (by rw [J];decide) ?_ (en rfl ?_ (en rfl ?_ .nil)) ?_
   ·exact fun _ _=>trivial
   ·exact YA s9 rfl rfl rfl
   ·exact Ke 0 rfl rfl rfl rfl
   intro L a35 w36 U B C K T;replace J:=B.Z J;replace F:=B.E F;have s8:=gS a35 8 (K 1 _ rfl);replace N1:=N1.below C.toBelow Xu;replace S:=Nat.le_trans S C.size;replace O:=C.below0 O;clear B C K U T s4 s6 s7 s9 s18 s19 s20 s21 b3 b4 b5;refine Xj (wp_ret ?_)
   refine bodyPost_ret (v:=.slice A1 ((sfK r l p s k).length) c1) (by simp [results,Tryz.results22,go_sem,s8]) F ?_
   have h0:=sf_yes (p:=p) (s:=s) hm
   rw [ek] at N1
   exact ⟨_,by rw [ek],by rw [h0];exact N1.mono (by omega),O⟩
set_option maxRecDepth 100000 in
set_option maxHeartbeats 3000000 in
theorem sSafe_c (r:XN) (l:List ZJ) (p:List Half) (s:XJ) (ra:Yr) (e:ZR) (b:ZR) (w:World) (hn:Xk r≤1048576) (hin:Za r) (hlin:∀ m∈l,m.In) (hs:Yo w r ra) (hnl:Y5 ra) (hlp:p.length≤1048576) (hpi:∀ h∈p,h.In) (hll:l.length≤1048576) (hsl:Sl 2 ZD w e.A l) (hsp:Sl 3 Xr w b.A p) (hnb:b.A=none→b.c=0) (hsi:s.In) :
 Calls Tryz.prog 17 #[XH r ra,.slice e.A l.length e.c,.agg #[.slice b.A p.length b.c],Yz s] w fun x w'=>∃ v,x=.returned v∧XY 3 1 YP w' w.heap.size v (Ji r l p s)∧Below w.heap.size w w':=by
 obtain ⟨i0n,hi0n,hz0n,hz1n,hz2n⟩:=info_parts (show (Tryz.prog.info? 3).map (fun i=>(i.zero,i.size,i.bytes))=some (some (.int .i64 0),1,8) by kernel_rfl)
 refine Y4 Tryz.func17 rfl (n:=42) Tryz.ntmps17 (by simp) ?_
 intro a0 J F ha
 have s0:a0.tmps[0]?.getD undef=XH r ra:=ha 0 _ rfl;have s1:a0.tmps[1]?.getD undef=.slice e.A l.length e.c:=ha 1 _ rfl;have s2:a0.tmps[2]?.getD undef=.agg #[.slice b.A p.length b.c]:=ha 2 _ rfl;have s3:a0.tmps[3]?.getD undef=Yz s:=ha 3 _ rfl;clear ha
 have O:=Below.refl w.heap.size w
 have S:=Nat.le_refl w.heap.size
 refine wp_seq ?_
 refine YK [4,6,7,8] [.pointer (some ⟨w.heap.size,0,none⟩),.pointer (some ⟨(w.heap.size+1),0,none⟩),.pointer (some ⟨(w.heap.size+2),0,none⟩),.slice none 0 0] [some (.cells (Y6 r ra).toArray 39),some (.cells [.slice b.A p.length b.c].toArray 37),some (.cells [.int .i64 s.x,.int .i64 s.y,.int .i64 s.d].toArray 44),none] [0,1,2,3] [4,6,7,8] [0,1,2,3] (by kernel_rfl) (by rw [J];decide) (ec ?_ (ec ?_ (ec ?_ (ec ?_ .nil)))) ?_
 ·intro a w' B hs N Q D;simp [go_sem,B.g rfl s0];rw [hs];exact D
 ·intro a w' B hs N Q D;simp [go_sem,B.g rfl s2];rw [hs];exact D
 ·intro a w' B hs N Q D;simp [go_sem,B.g rfl s3];rw [hs];exact D
 ·intro a w' B hs N Q D;simp [go_sem];exact D
 intro a1 w2 B K hb hO
 replace J:=B.size.trans J;replace F:=B.defers.trans F;replace s1:=B.g rfl s1
 have s4:a1.tmps[4]?.getD undef=.pointer (some ⟨w.heap.size,0,none⟩):=K 0 (by decide)
 have s6:a1.tmps[6]?.getD undef=.pointer (some ⟨(w.heap.size+1),0,none⟩):=K 1 (by decide)
 have s7:a1.tmps[7]?.getD undef=.pointer (some ⟨(w.heap.size+2),0,none⟩):=K 2 (by decide)
 have b3:Xy w2 w.heap.size 39 (Y6 r ra):=hO 0 _ rfl
 have b4:Xy w2 (w.heap.size+1) 37 [.slice b.A p.length b.c]:=hO 1 _ rfl
 have b5:Xy w2 (w.heap.size+2) 44 [.int .i64 s.x,.int .i64 s.y,.int .i64 s.d]:=hO 2 _ rfl
 have hG:=b5.lt
 replace O:=Xh O hb;have zw2:=Nat.le_trans S hb.size;replace S:=Nat.le_refl w2.heap.size;clear B K hb hO s0 s2 s3;refine Xj (wp_seq (wp_seq ?_))
 refine Xe (by kernel_rfl) [14,15,16,17] [some (XH r ra),some (.slice e.A l.length e.c),some (.bool (YI r l)),some (.bool (!(YI r l)))] (X7 4) [14,15,16,17] [0,1,2,3] [] (fun _ _ _=>True) (by kernel_rfl) (by rw [J];decide) ?_ (en rfl ?_ (en rfl ?_ (en rfl ?_ (en rfl ?_ .nil)))) ?_
 ·exact fun _ _=>trivial
 ·intro R M I H _ _ D
  simp [go_sem,H.f.g rfl s4,(b3.k0 H.k).cell]
  exact (D _ _ H.k rfl trivial)
 ·exact YA s1 rfl rfl rfl
 ·intro R M I H _ _ D
  simp [go_sem,(gS M 14 (H.d 0 rfl rfl)),(gS M 15 (H.d 1 rfl rfl))]
  have hBi:=H.k.below0 O
  refine (sModesOk_c r ra e.A l e.c I hn hin hll (hs.below hBi) hnl (hsl.below hBi)).mono ?_
  rintro x wx ⟨rfl,hb⟩
  exact (D _ _ (H.k.call hb) rfl trivial)
 ·exact Jn 2 rfl rfl rfl rfl
 intro L a6 w7 U B C K T;replace J:=B.Z J;replace F:=B.E F;replace s1:=B.G s1;replace s4:=B.G s4;replace s6:=B.G s6;replace s7:=B.G s7;have s17:=gS a6 17 (K 3 _ rfl);replace b3:=b3.k0 C;replace b4:=b4.k0 C;replace b5:=b5.k0 C;replace S:=Nat.le_trans S C.size;replace O:=C.below0 O;clear B C K U T;refine Xj ?_
 rcases Bool.eq_false_or_eq_true (!(YI r l)) with q8|q8
 ·refine wp_cond_true (ev (vb s17 q8)) ?_
  refine wp_seq ?_
  refine Xe (by kernel_rfl) [8] [some (.slice none 0 0)] (X7 1) [8] [0] [] (fun _ _ _=>True) (by kernel_rfl) (by rw [J];decide) ?_ (en rfl ?_ .nil) ?_
  ·exact fun _ _=>trivial
  ·exact Kk rfl rfl
  intro L a9 w10 U B C K T;replace J:=B.Z J;replace F:=B.E F;have s8:=gS a9 8 (K 0 _ rfl);replace S:=Nat.le_trans S C.size;replace O:=C.below0 O;clear B C K U T s1 s4 s6 s7 s17 b3 b4 b5;refine Xj (wp_ret (YY ?_))
  refine bodyPost_ret (v:=.slice none 0 0) (by simp [results,Tryz.results17,go_sem,s8]) F ?_
  have h0:=sf_no (p:=p) (s:=s) (not_t q8)
  exact ⟨_,rfl,by rw [h0];exact XY.nilN _ _ _ _ _,O⟩
 ·have hm:=Zv q8
  have hl4:=(modes_room hm).2.2
  have hm4:=modes_map hm
  refine wp_cond_false (ev (vb s17 q8)) ?_
  refine wp_skip (Xj (wp_seq ?_))
  refine Xe (by kernel_rfl) [18,9] [none,none] (X7 2) [18,9] [0,1] [] (fun L aa I=>(L 0=true→(fun I v=>∃ A1 c1,v=.slice A1 0 c1∧XY 3 1 YP I w7.heap.size (.slice A1 0 c1) []) I (aa.tmps[18]?.getD undef))∧(L 1=true→(fun I v=>∃ A1 c1,v=.slice A1 0 c1∧XY 3 1 YP I w7.heap.size (.slice A1 0 c1) []) I (aa.tmps[9]?.getD undef))) (by kernel_rfl) (by rw [J];decide) ?_ (en rfl ?_ (en rfl ?_ .nil)) ?_
  ·exact fun _ h=>⟨(fun h=>by cases h),(fun h=>by cases h)⟩
  ·intro R M I H _ _ D
   obtain ⟨x0,x1⟩:=H.x
   simp [go_sem]
   have f1:XY 3 1 YP (I.alloc (.cells #[] 3)) w7.heap.size (.slice (some ⟨I.heap.size,0,none⟩) 0 0) []:=(XY.mk0 I).mono H.k.size
   exact D _ _ (H.k.alloc _) trivial ⟨(fun _=>by rw [Xc (H.f.lt (by rw [J];decide))];exact ⟨_,_,rfl,f1⟩),(fun h=>by rw [Xb (by decide)];obtain ⟨A1',c1',e,f1'⟩:=x1 h;exact ⟨A1',c1',e,f1'.below (Xm bR _) Xu⟩)⟩
  ·intro R M I H _ _ D
   obtain ⟨x0,x1⟩:=H.x
   obtain ⟨A1,c1,ee0,f1⟩:=x0 (H.r 0 rfl)
   exact X1 rfl (ev ee0) (D _ _ H.k trivial ⟨(fun h=>by rw [Xb (by decide)];obtain ⟨A1',c1',e,f1'⟩:=x0 h;exact ⟨A1',c1',e,f1'.below bR Xu⟩),(fun _=>by rw [Xc (H.f.lt (by rw [J];decide))];exact ⟨A1,c1,rfl,f1⟩)⟩)
  intro L a11 w12 U B C K T
  obtain ⟨x0,x1⟩:=T
  replace J:=B.Z J;replace F:=B.E F;replace s1:=B.G s1;replace s4:=B.G s4;replace s6:=B.G s6;replace s7:=B.G s7;replace b3:=b3.k0 C;replace b4:=b4.k0 C;replace b5:=b5.k0 C
  obtain ⟨A1,c1,s9,N1⟩:=x1 (U 1 (by decide))
  have i1:∀ p,A1=some p→p.block<w12.heap.size:=fun p hp=>(N1.blk p hp).2;have zw7:=S;have zw12:=C.size;replace S:=Nat.le_refl w12.heap.size;replace O:=C.below0 O;clear B C K U x0 x1 s17;refine Xj (wp_seq (wp_seq ?_))
  refine Xe (by kernel_rfl) [19,20,21] [some (.slice e.A l.length e.c),some (.int .i64 (l.length:Int)),some (.int .i64 0)] (X7 3) [19,20,21] [0,1,2] [] (fun _ _ _=>True) (by kernel_rfl) (by rw [J];decide) ?_ (en rfl ?_ (en rfl ?_ (en rfl ?_ .nil))) ?_
  ·exact fun _ _=>trivial
  ·exact YA s1 rfl rfl rfl
  ·intro R M I H _ _ D
   simp [go_sem,(gS M 19 (H.d 0 rfl rfl))]
   exact (D _ _ H.k rfl trivial)
  ·exact oMCT rfl rfl
  intro L a13 w14 U B C K T;replace J:=B.Z J;replace F:=B.E F;replace s4:=B.G s4;replace s6:=B.G s6;replace s7:=B.G s7;replace s9:=B.G s9;have s19:=gS a13 19 (K 0 _ rfl);have s20:=gS a13 20 (K 1 _ rfl);have s21:=gS a13 21 (K 2 _ rfl);replace b3:=b3.k0 C;replace b4:=b4.k0 C;replace b5:=b5.k0 C;replace N1:=N1.below C.toBelow Xu;replace S:=Nat.le_trans S C.size;replace O:=C.below0 O;clear B C K U T s1;refine Xj (wp_block ?_)
  refine wp_loop (fun al wl=>al.tmps.size=42∧al.defers=[]∧∃ (k:Nat) (A2:Option Addr) (c2:Nat),(k≤l.length)∧al.tmps[4]?.getD undef=.pointer (some ⟨w.heap.size,0,none⟩)∧al.tmps[6]?.getD undef=.pointer (some ⟨(w.heap.size+1),0,none⟩)∧al.tmps[7]?.getD undef=.pointer (some ⟨(w.heap.size+2),0,none⟩)∧al.tmps[9]?.getD undef=.slice A2 ((sfK r l p s k).length) c2∧al.tmps[19]?.getD undef=.slice e.A l.length e.c∧al.tmps[20]?.getD undef=.int .i64 (l.length:Int)∧al.tmps[21]?.getD undef=.int .i64 (k:Int)∧Xy wl w.heap.size 39 (Y6 r ra)∧Xy wl (w.heap.size+1) 37 [.slice b.A p.length b.c]∧Xy wl (w.heap.size+2) 44 [.int .i64 s.x,.int .i64 s.y,.int .i64 s.d]∧XY 3 1 YP wl w7.heap.size (.slice A2 (sfK r l p s k).length c2) (sfK r l p s k)∧Below w.heap.size w wl∧w12.heap.size≤wl.heap.size) (fun al _=>(l.length-(intOf (al.tmps[21]?.getD undef)).toNat)) ?_ ?_
  ·exact ⟨J,F,(0),(A1),(c1),(Nat.zero_le _),s4,s6,s7,s9,s19,s20,s21,b3,b4,b5,(N1),O,(by omega)⟩
  clear J F O S s4 s6 s7 s9 s19 s20 s21 b3 b4 b5 N1
  rintro a15 w16 ⟨J,F,k,A2,c2,hk,s4,s6,s7,s9,s19,s20,s21,b3,b4,b5,N2,O,S⟩
  have zw16:=S;replace S:=Nat.le_refl w16.heap.size;have i2:∀ p,A2=some p→p.block<w16.heap.size:=fun p hp=>(N2.blk p hp).2
  have hmu:(l.length-(intOf (a15.tmps[21]?.getD undef)).toNat)=(l.length-(intOf ((.int .i64 (k:Int)))).toNat):=by rw [s21]
  refine wp_seq ?_
  refine Xe (by kernel_rfl) [22] [some (.bool (decide ((k:Int)<(l.length:Int))))] (X7 1) [22] [0] [] (fun _ _ _=>True) (by kernel_rfl) (by rw [J];decide) ?_ (en rfl ?_ .nil) ?_
  ·exact fun _ _=>trivial
  ·exact fun R M I H _ _ D=>Yc rfl (ev (H.f.g rfl s21)) (ev (H.f.g rfl s20)) rfl rfl (D _ _ H.k rfl trivial)
  intro L a17 w18 U B C K T;replace J:=B.Z J;replace F:=B.E F;replace s4:=B.G s4;replace s6:=B.G s6;replace s7:=B.G s7;replace s9:=B.G s9;replace s19:=B.G s19;replace s20:=B.G s20;replace s21:=B.G s21;have s22:=gS a17 22 (K 0 _ rfl);replace b3:=b3.k0 C;replace b4:=b4.k0 C;replace b5:=b5.k0 C;replace N2:=N2.below C.toBelow Xu;replace S:=Nat.le_trans S C.size;replace O:=C.below0 O;clear B C K U T;refine Xj (wp_seq ?_)
  rcases Bool.eq_false_or_eq_true (decide ((k:Int)<(l.length:Int))) with q19|q19
  ·have hkl:k<l.length:=by have:=Ki q19;omega
   obtain ⟨bl,ol,el,fe⟩:=ElS.open_ (hsl.below O) (by omega)
   refine wp_cond_true (ev (vb s22 q19)) ?_
   refine wp_skip (Xj (wp_seq (wp_block (wp_seq ?_))))
   have P:XI [11] (fun L aa I=>(L 3=true→Ye w18 aa I 11 132 [.int .i64 0,.int .i64 0] (L 5) (fun _ vs=>vs=[.int .i64 ((l.getD k Xw).low),.int .i64 ((l.getD k Xw).high)]))):=by
    intro L aa I w' kk vv hkk hb T
    have x0:=T
    exact (fun h=>((x0 h).bel hb (fun _ h=>h)).put (hkk 11 (by simp)) _)
   refine Xx P (by kernel_rfl) [23,24,25,11,10,0] [some (.int .i64 (k:Int)),some (.pointer (some ⟨bl,ol+k*2,none⟩)),some (.agg #[.int .i64 ((l.getD k Xw).low),.int .i64 ((l.getD k Xw).high)]),none,some (.int .i64 (k:Int)),none] (X7 6) [23,24,25,11,10] [0,1,2,3,4,5] [] (by kernel_rfl) (by rw [J];decide) ?_ (en rfl ?_ (en rfl ?_ (en rfl ?_ (en rfl ?_ (en rfl ?_ (en rfl ?_ .nil)))))) ?_
   ·exact fun _ h=>(fun h=>by cases h)
   ·exact Kn s21 rfl rfl rfl fun _ _ _ _=>P.q rfl
   ·intro R M I H _ _ D
    simp [go_sem,H.f.g rfl s19,H.f.g rfl s21,hkl,el]
    exact (D _ _ H.k rfl (P.q rfl H.x))
   ·intro R M I H _ _ D
    have hE:=fe.kp H.k (by simp)
    simp [go_sem,(gS M 24 (H.d 1 rfl rfl)),(hE.at_ Xw (i:=k) (by omega) 0 (p:=ol+k*2) (by omega) rfl),(hE.at_ Xw (i:=k) (by omega) 1 (p:=ol+k*2+1) (by omega) rfl)]
    exact (D _ _ H.k rfl (P.q rfl H.x))
   ·intro R M I H _ _ D
    have x0:=H.x
    simp [go_sem]
    exact D _ _ (H.k.alloc _) trivial (fun _=>by rw [show ZB R 3 5=false from H.t 5 rfl];exact Ye.new (s:=11) (H.f.lt (by rw [J];decide)) H.k.size [.int .i64 0,.int .i64 0])
   ·exact JC 0 rfl rfl rfl rfl fun _ _ _ _=>P.q rfl
   ·intro R M I H _ _ D
    have x0:=H.x
    obtain ⟨g,eg,hg,y,_⟩:=x0 (H.r 3 rfl)
    have V:=y H.n
    simp [go_sem,(gS M 25 (H.d 2 rfl rfl)),eg,V.cell,V.frz]
    exact D undef _ (H.k.store (.inl hg) [.int .i64 ((l.getD k Xw).low),.int .i64 ((l.getD k Xw).high)] 0) trivial (fun _=>Ye.set eg hg V (us:=[.int .i64 ((l.getD k Xw).low),.int .i64 ((l.getD k Xw).high)]) rfl rfl)
   intro L a20 w21 U B C K T;have x0:=T;replace J:=B.Z J;replace F:=B.E F;replace s4:=B.G s4;replace s6:=B.G s6;replace s7:=B.G s7;replace s9:=B.G s9;replace s19:=B.G s19;replace s20:=B.G s20;replace s21:=B.G s21;have s10:=gS a20 10 (K 4 _ rfl);replace b3:=b3.k0 C;replace b4:=b4.k0 C;replace b5:=b5.k0 C
   obtain ⟨g22,s11,lg22,-,b22⟩:=x0 (U 3 (by decide))
   obtain ⟨_,b22,rfl⟩:=b22 (U 5 (by decide))
   have ug22:=b22.lt
   replace N2:=N2.below C.toBelow Xu;have zw18:=S;have zw21:=C.size;replace S:=Nat.le_refl w21.heap.size;replace O:=C.below0 O;clear B C K U x0 P s22 fe;refine Xj (wp_seq ?_)
   have P:XI [12,29] (fun L aa I=>(L 2=true→(fun I v=>∃ m3,v=XH (ZG r (l.getD k Xw)) m3∧X0 I w21.heap.size (ZG r (l.getD k Xw)) m3) I (aa.tmps[29]?.getD undef))∧(L 9=true→Ye w21 aa I 12 72 [.int .i64 0,.int .i64 0,.int .i64 0,.int .i64 0] (L 10) (fun _ vs=>vs=[.int .i64 (((XO (ZG r (l.getD k Xw)) p s).getD Xd).low.n),.int .i64 (((XO (ZG r (l.getD k Xw)) p s).getD Xd).low.d),.int .i64 (((XO (ZG r (l.getD k Xw)) p s).getD Xd).high.n),.int .i64 (((XO (ZG r (l.getD k Xw)) p s).getD Xd).high.d)]))):=by
    intro L aa I w' kk vv hkk hb T
    obtain ⟨x0,x1⟩:=T
    exact ⟨(fun h=>by rw [Xb (hkk 29 (by simp))];obtain ⟨m3',e,f3'⟩:=x0 h;exact ⟨m3',e,f3'.below hb Xu⟩),(fun h=>((x1 h).bel hb (fun _ h=>h)).put (hkk 12 (by simp)) _)⟩
   refine Xx P (by kernel_rfl) [27,28,29,30,31,32,26,33,34,12,0,13] [some (XH r ra),some (.agg #[.int .i64 ((l.getD k Xw).low),.int .i64 ((l.getD k Xw).high)]),none,some (.agg #[.slice b.A p.length b.c]),some (Yz s),some (.tuple #[Yf ((XO (ZG r (l.getD k Xw)) p s).getD Xd),.bool ((XO (ZG r (l.getD k Xw)) p s).isSome)]),some (.tuple #[Yf ((XO (ZG r (l.getD k Xw)) p s).getD Xd),.bool ((XO (ZG r (l.getD k Xw)) p s).isSome)]),some (Yf ((XO (ZG r (l.getD k Xw)) p s).getD Xd)),some (.bool ((XO (ZG r (l.getD k Xw)) p s).isSome)),none,none,some (.bool ((XO (ZG r (l.getD k Xw)) p s).isSome))] ([[],[],[0,1],[],[],[0,1,2,3,4],[0,1,2,3,4,5],[0,1,2,3,4,5,6],[0,1,2,3,4,5,6],[],[0,1,2,3,4,5,6,7,9],[0,1,2,3,4,5,6,7,8,9,10]]) [27,28,29,30,31,32,26,33,34,12,13] [0,1,2,3,4,5,6,7,8,9,10,11] [] (by kernel_rfl) (by rw [J];decide) ?_ (en rfl ?_ (en rfl ?_ (en rfl ?_ (en rfl ?_ (en rfl ?_ (en rfl ?_ (en rfl ?_ (en rfl ?_ (en rfl ?_ (en rfl ?_ (en rfl ?_ (en rfl ?_ .nil)))))))))))) ?_
   ·exact fun _ h=>⟨(fun h=>by cases h),(fun h=>by cases h)⟩
   ·intro R M I H _ _ D
    simp [go_sem,H.f.g rfl s4,(b3.k0 H.k).cell]
    exact (D _ _ H.k rfl (P.q rfl H.x))
   ·intro R M I H _ _ D
    simp [go_sem,H.f.g rfl s11,(b22.k0 H.k).cell]
    exact (D _ _ H.k rfl (P.q rfl H.x))
   ·intro R M I H _ _ D
    obtain ⟨x0,x1⟩:=H.x
    simp [go_sem,(gS M 27 (H.d 0 rfl rfl)),(gS M 28 (H.d 1 rfl rfl))]
    have hBi:=H.k.below0 O
    refine (sInMode_c r ra (l.getD k Xw) I hn (hs.below hBi) hnl ((hs.below hBi).map.some_ (by rw [hm4];decide))).mono ?_
    rintro x wx ⟨m3,rfl,f0,hb⟩
    have f3:=f0.mono H.k.size
    exact (D _ _ (H.k.call hb) trivial ⟨(fun _=>by rw [Xc (H.f.lt (by rw [J];decide))];exact ⟨m3,rfl,f3⟩),(fun h=>((x1 h).bel hb (fun _ h=>h)).put (by decide) _)⟩)
   ·intro R M I H _ _ D
    simp [go_sem,H.f.g rfl s6,(b4.k0 H.k).cell]
    exact (D _ _ H.k rfl (P.q rfl H.x))
   ·intro R M I H _ _ D
    simp [go_sem,H.f.g rfl s7,(b5.k0 H.k).cell]
    exact (D _ _ H.k rfl (P.q rfl H.x))
   ·intro R M I H _ _ D
    obtain ⟨x0,x1⟩:=H.x
    obtain ⟨m3,ee2,f3⟩:=x0 (H.r 2 rfl)
    simp [go_sem,ee2,(gS M 30 (H.d 3 rfl rfl)),(gS M 31 (H.d 4 rfl rfl))]
    have hBi:=H.k.below0 O
    refine (sAdmAt_c (ZG r (l.getD k Xw)) p s m3 b I hn (inM_in hin (hlin _ (Jk hkl Xw))) f3.sl f3.nil hlp hpi (hsp.below hBi) hnb hsi).mono ?_
    rintro x wx ⟨rfl,hb⟩
    exact (D _ _ (H.k.call hb) (YQ _) (P.b rfl hb H.x))
   ·exact oMDX 5 rfl rfl rfl rfl fun _ _ _ _=>P.q rfl
   ·exact Jp 6 rfl rfl rfl rfl rfl fun _ _ _ _=>P.q rfl
   ·exact Jp 6 rfl rfl rfl rfl rfl fun _ _ _ _=>P.q rfl
   ·intro R M I H _ _ D
    obtain ⟨x0,x1⟩:=H.x
    simp [go_sem]
    exact D _ _ (H.k.alloc _) trivial ⟨(fun h=>by rw [Xb (by decide)];obtain ⟨m3',e,f3'⟩:=x0 h;exact ⟨m3',e,f3'.below (Xm bR _) Xu⟩),(fun _=>by rw [show ZB R 9 10=false from H.t 10 rfl];exact Ye.new (s:=12) (H.f.lt (by rw [J];decide)) H.k.size [.int .i64 0,.int .i64 0,.int .i64 0,.int .i64 0])⟩
   ·intro R M I H _ _ D
    obtain ⟨x0,x1⟩:=H.x
    obtain ⟨g,eg,hg,y,_⟩:=x1 (H.r 9 rfl)
    have V:=y H.n
    simp [go_sem,(gS M 33 (H.d 7 rfl rfl)),eg,V.cell,V.frz]
    exact D undef _ (H.k.store (.inl hg) [.int .i64 (((XO (ZG r (l.getD k Xw)) p s).getD Xd).low.n),.int .i64 (((XO (ZG r (l.getD k Xw)) p s).getD Xd).low.d),.int .i64 (((XO (ZG r (l.getD k Xw)) p s).getD Xd).high.n),.int .i64 (((XO (ZG r (l.getD k Xw)) p s).getD Xd).high.d)] 0) trivial ⟨(fun h=>by obtain ⟨m3',e,f3'⟩:=x0 h;exact ⟨m3',e,f3'.otherT V (by decide) (by decide) [.int .i64 (((XO (ZG r (l.getD k Xw)) p s).getD Xd).low.n),.int .i64 (((XO (ZG r (l.getD k Xw)) p s).getD Xd).low.d),.int .i64 (((XO (ZG r (l.getD k Xw)) p s).getD Xd).high.n),.int .i64 (((XO (ZG r (l.getD k Xw)) p s).getD Xd).high.d)] 0⟩),(fun _=>Ye.set eg hg V (us:=[.int .i64 (((XO (ZG r (l.getD k Xw)) p s).getD Xd).low.n),.int .i64 (((XO (ZG r (l.getD k Xw)) p s).getD Xd).low.d),.int .i64 (((XO (ZG r (l.getD k Xw)) p s).getD Xd).high.n),.int .i64 (((XO (ZG r (l.getD k Xw)) p s).getD Xd).high.d)]) rfl rfl)⟩
   ·exact JC 8 rfl rfl rfl rfl fun _ _ _ _=>P.q rfl
   intro L a23 w24 U B C K T
   obtain ⟨x0,x1⟩:=T
   replace J:=B.Z J;replace F:=B.E F;replace s4:=B.G s4;replace s6:=B.G s6;replace s7:=B.G s7;replace s9:=B.G s9;replace s19:=B.G s19;replace s20:=B.G s20;replace s21:=B.G s21;replace s10:=B.G s10;have s13:=gS a23 13 (K 11 _ rfl);replace b3:=b3.k0 C;replace b4:=b4.k0 C;replace b5:=b5.k0 C
   obtain ⟨g25,s12,lg25,-,b25⟩:=x1 (U 9 (by decide))
   obtain ⟨_,b25,rfl⟩:=b25 (U 10 (by decide))
   have ug25:=b25.lt
   replace N2:=N2.below C.toBelow Xu;have zw24:=C.size;replace S:=Nat.le_refl w24.heap.size;replace O:=C.below0 O;clear B C K U x0 x1 P s11 b22;refine Xj (wp_seq ?_)
   refine Xe (by kernel_rfl) [35] [some (.bool ((XO (ZG r (l.getD k Xw)) p s).isSome))] (X7 1) [35] [0] [] (fun _ _ _=>True) (by kernel_rfl) (by rw [J];decide) ?_ (en rfl ?_ .nil) ?_
   ·exact fun _ _=>trivial
   ·exact YA s13 rfl rfl rfl
   intro L a26 w27 U B C K T;replace J:=B.Z J;replace F:=B.E F;replace s4:=B.G s4;replace s6:=B.G s6;replace s7:=B.G s7;replace s9:=B.G s9;replace s19:=B.G s19;replace s20:=B.G s20;replace s21:=B.G s21;replace s10:=B.G s10;have s35:=gS a26 35 (K 0 _ rfl);replace b3:=b3.k0 C;replace b4:=b4.k0 C;replace b5:=b5.k0 C;replace N2:=N2.below C.toBelow Xu;replace S:=Nat.le_trans S C.size;replace O:=C.below0 O;clear B C K U T s13 s12 b25;refine Xj ?_
   rcases Bool.eq_false_or_eq_true ((XO (ZG r (l.getD k Xw)) p s).isSome) with q28|q28
   ·refine wp_cond_true (ev (vb s35 q28)) ?_
    have P:XI [9,38,39] (fun L aa I=>(L 2=true→(fun I v=>∃ g4,v=.slice (some ⟨g4,0,none⟩) 1 1∧Xy I g4 3 [.int .i64 (k:Int)]∧w27.heap.size≤g4) I (aa.tmps[38]?.getD undef))∧(L 3=true→(fun I v=>∃ A5 c5,v=.slice A5 (((sfK r l p s k)++[(k:Int)]).length) c5∧XY 3 1 YP I w7.heap.size (.slice A5 ((sfK r l p s k)++[(k:Int)]).length c5) ((sfK r l p s k)++[(k:Int)])) I (aa.tmps[39]?.getD undef))∧(L 4=true→(fun I v=>∃ A5 c5,v=.slice A5 (((sfK r l p s k)++[(k:Int)]).length) c5∧XY 3 1 YP I w7.heap.size (.slice A5 ((sfK r l p s k)++[(k:Int)]).length c5) ((sfK r l p s k)++[(k:Int)])) I (aa.tmps[9]?.getD undef))∧(L 3=false→XY 3 1 YP I w7.heap.size (.slice A2 (sfK r l p s k).length c2) (sfK r l p s k))∧(L 4=false→aa.tmps[9]?.getD undef=.slice A2 ((sfK r l p s k).length) c2)):=by
     intro L aa I w' kk vv hkk hb T
     obtain ⟨x0,x1,x2,x3,x4⟩:=T
     exact ⟨(fun h=>by rw [Xb (hkk 38 (by simp))];obtain ⟨g4',e,f4'⟩:=x0 h;exact ⟨g4',e,⟨f4'.1.bel hb,f4'.2⟩⟩),(fun h=>by rw [Xb (hkk 39 (by simp))];obtain ⟨A5',c5',e,f5'⟩:=x1 h;exact ⟨A5',c5',e,f5'.below hb Xu⟩),(fun h=>by rw [Xb (hkk 9 (by simp))];obtain ⟨A5',c5',e,f5'⟩:=x2 h;exact ⟨A5',c5',e,f5'.below hb Xu⟩),(fun h=>(x3 h).below hb Xu),(fun h=>(Xb (hkk 9 (by simp)) vv).trans (x4 h))⟩
    refine Xx P (by kernel_rfl) [36,37,38,39,9] [some (.slice A2 ((sfK r l p s k).length) c2),some (.int .i64 (k:Int)),none,none,none] (X7 5) [36,37,38,39,9] [0,1,2,3,4] (blkL A2) (by kernel_rfl) (by rw [J];decide) ?_ (en rfl ?_ (en rfl ?_ (en rfl ?_ (en rfl ?_ (en rfl ?_ .nil))))) ?_
    ·exact fun _ h=>⟨(fun h=>by cases h),(fun h=>by cases h),(fun h=>by cases h),(fun _=>N2.below h.toBelow Xu),(fun _=>s9)⟩
    ·intro R M I H _ _ D
     obtain ⟨x0,x1,x2,x3,x4⟩:=H.x
     exact XF rfl (ev (x4 (H.t 4 rfl))) (D _ _ H.k rfl (P.q rfl H.x))
    ·exact Kn s10 rfl rfl rfl fun _ _ _ _=>P.q rfl
    ·intro R M I H _ _ D
     obtain ⟨x0,x1,x2,x3,x4⟩:=H.x
     simp [go_sem,(gS M 37 (H.d 1 rfl rfl))]
     have f4:Xy (I.alloc (.cells #[.int .i64 (k:Int)] 3)) I.heap.size 3 [.int .i64 (k:Int)]∧w27.heap.size≤I.heap.size:=⟨Xy.new _ _ _,H.k.size⟩
     exact D _ _ (H.k.alloc _) trivial ⟨(fun _=>by rw [Xc (H.f.lt (by rw [J];decide))];exact ⟨_,rfl,f4⟩),(fun h=>by rw [Xb (by decide)];obtain ⟨A5',c5',e,f5'⟩:=x1 h;exact ⟨A5',c5',e,f5'.below (Xm bR _) Xu⟩),(fun h=>by rw [Xb (by decide)];obtain ⟨A5',c5',e,f5'⟩:=x2 h;exact ⟨A5',c5',e,f5'.below (Xm bR _) Xu⟩),(fun h=>(x3 h).below (Xm bR _) Xu),(fun h=>(Xb (by decide) _).trans (x4 h))⟩
    ·intro R M I H _ _ D
     obtain ⟨x0,x1,x2,x3,x4⟩:=H.x
     obtain ⟨g4,ee2,f4⟩:=x0 (H.r 2 rfl)
     refine wp_app1 Yv rfl w7.heap.size i0n _ 8 Tryz.underlying22 hi0n hz0n hz1n hz2n rfl (by decide) (ev (H.d 0 rfl rfl)) (x3 H.n) (ev ee2) (y:=(k:Int)) f4.1 intC_one (by have:=H.k.size;omega) (by have:=sfK_len r l p s k;omega) (by decide) ?_
     intro A5 c5 wx f5 hG
     exact D _ _ (H.k.trans2 hG (fun m h=>.inl h)) trivial ⟨(fun h=>by rw [Xb (by decide)];obtain ⟨g',e,f'⟩:=x0 h;exact ⟨g',e,f'.1.kp hG (J6 (fun p hp=>by have q1:=N2.blk p hp;have q2:=f'.2;omega)),f'.2⟩),(fun _=>by rw [Xc (H.f.lt (by rw [J];decide))];exact ⟨A5,c5,rfl,f5⟩),(fun h=>absurd (H.t 4 rfl) (by rw [show R 4=true by simpa [ZB] using h];decide)),(fun h=>by simp [ZB] at h),(fun h=>(Xb (by decide) _).trans (x4 h))⟩
    ·intro R M I H _ _ D
     obtain ⟨x0,x1,x2,x3,x4⟩:=H.x
     obtain ⟨A5,c5,ee3,f5⟩:=x1 (H.r 3 rfl)
     exact X1 rfl (ev ee3) (D _ _ H.k trivial ⟨(fun h=>by rw [Xb (by decide)];obtain ⟨g4',e,f4'⟩:=x0 h;exact ⟨g4',e,⟨f4'.1.bel bR,f4'.2⟩⟩),(fun h=>by rw [Xb (by decide)];obtain ⟨A5',c5',e,f5'⟩:=x1 h;exact ⟨A5',c5',e,f5'.below bR Xu⟩),(fun _=>by rw [Xc (H.f.lt (by rw [J];decide))];exact ⟨A5,c5,rfl,f5⟩),(fun h=>(x3 h).below bR Xu),(fun h=>by simp [ZB] at h)⟩)
    intro L a29 w30 U B C K T
    obtain ⟨x0,x1,x2,x3,x4⟩:=T
    replace J:=B.Z J;replace F:=B.E F
    have hB9:=C.below O O.size (fun m hm=>by obtain ⟨p,hp,rfl⟩:=blkL_in hm;have q1:=N2.blk p hp;have q2:=i2 p hp;omega)
    replace s4:=B.G s4;replace s6:=B.G s6;replace s7:=B.G s7;replace s19:=B.G s19;replace s20:=B.G s20;replace s21:=B.G s21
    replace b3:=b3.kp C (J6 (fun p hp=>by have q1:=N2.blk p hp;have q2:=i2 p hp;omega))
    replace b4:=b4.kp C (J6 (fun p hp=>by have q1:=N2.blk p hp;have q2:=i2 p hp;omega))
    replace b5:=b5.kp C (J6 (fun p hp=>by have q1:=N2.blk p hp;have q2:=i2 p hp;omega))
    obtain ⟨A5,c5,s9,N5⟩:=x2 (U 4 (by decide))
    have i5:∀ p,A5=some p→p.block<w30.heap.size:=fun p hp=>(N5.blk p hp).2;have zw27:=S;have zw30:=C.size;replace S:=Nat.le_refl w30.heap.size;replace O:=hB9;clear B C K U x0 x1 x2 x3 x4 P s10 s35 N2 i2;refine J0 (Xj ?_)
    refine Xe (by kernel_rfl) [40,21] [some (.int .i64 ((k:Int)+1)),some (.int .i64 ((k:Int)+1))] (X7 2) [40,21] [0,1] [] (fun L aa I=>(L 1=false→aa.tmps[21]?.getD undef=.int .i64 (k:Int))) (by kernel_rfl) (by rw [J];decide) ?_ (en rfl ?_ (en rfl ?_ .nil)) ?_
    ·exact fun _ h=>(fun _=>s21)
    ·intro R M I H _ _ D
     have x0:=H.x
     exact ZY rfl (ev (x0 (H.t 1 rfl))) rfl (by omega) (D _ _ H.k rfl (fun h=>(Xb (by decide) _).trans (x0 h)))
    ·intro R M I H _ _ D
     have x0:=H.x
     exact XF rfl (ev (H.d 0 rfl rfl)) (D _ _ H.k rfl (fun h=>by simp [ZB] at h))
    intro L a31 w32 U B C K T;have x0:=T;replace J:=B.Z J;replace F:=B.E F;replace s4:=B.G s4;replace s6:=B.G s6;replace s7:=B.G s7;replace s19:=B.G s19;replace s20:=B.G s20;replace s9:=B.G s9;have s21:=gS a31 21 (K 1 _ rfl);replace b3:=b3.k0 C;replace b4:=b4.k0 C;replace b5:=b5.k0 C;replace N5:=N5.below C.toBelow Xu;replace S:=Nat.le_trans S C.size;replace O:=C.below0 O;clear B C K U x0;refine Xj ?_
    refine ⟨?_, ?_⟩
    ·exact ⟨J,F,(k+1),(A5),(c5),(by omega),s4,s6,s7,(by rw [sfK_yes (r:=r) (l:=l) (p:=p) (s:=s) (k:=k) q28];exact s9),s19,s20,s21,b3,b4,b5,(by rw [sfK_yes (r:=r) (l:=l) (p:=p) (s:=s) (k:=k) q28];exact N5),O,(by omega)⟩
    ·show (l.length-(intOf (a31.tmps[21]?.getD undef)).toNat)<_
     rw [s21,hmu];simp only [intOf];omega
   ·refine wp_cond_false (ev (vb s35 q28)) ?_
    refine wp_skip ?_;refine J0 (Xj ?_)
    refine Xe (by kernel_rfl) [40,21] [some (.int .i64 ((k:Int)+1)),some (.int .i64 ((k:Int)+1))] (X7 2) [40,21] [0,1] [] (fun L aa I=>(L 1=false→aa.tmps[21]?.getD undef=.int .i64 (k:Int))) (by kernel_rfl) (by rw [J];decide) ?_ (en rfl ?_ (en rfl ?_ .nil)) ?_
    ·exact fun _ h=>(fun _=>s21)
    ·intro R M I H _ _ D
     have x0:=H.x
     exact ZY rfl (ev (x0 (H.t 1 rfl))) rfl (by omega) (D _ _ H.k rfl (fun h=>(Xb (by decide) _).trans (x0 h)))
    ·intro R M I H _ _ D
     have x0:=H.x
     exact XF rfl (ev (H.d 0 rfl rfl)) (D _ _ H.k rfl (fun h=>by simp [ZB] at h))
    intro L a33 w34 U B C K T;have x0:=T;replace J:=B.Z J;replace F:=B.E F;replace s4:=B.G s4;replace s6:=B.G s6;replace s7:=B.G s7;replace s9:=B.G s9;replace s19:=B.G s19;replace s20:=B.G s20;have s21:=gS a33 21 (K 1 _ rfl);replace b3:=b3.k0 C;replace b4:=b4.k0 C;replace b5:=b5.k0 C;replace N2:=N2.below C.toBelow Xu;replace S:=Nat.le_trans S C.size;replace O:=C.below0 O;clear B C K U x0 s10 s35;refine Xj ?_
    refine ⟨?_, ?_⟩
    ·exact ⟨J,F,(k+1),(A2),(c2),(by omega),s4,s6,s7,(by rw [sfK_no (r:=r) (l:=l) (p:=p) (s:=s) (k:=k) q28];exact s9),s19,s20,s21,b3,b4,b5,(by rw [sfK_no (r:=r) (l:=l) (p:=p) (s:=s) (k:=k) q28];exact N2),O,(by omega)⟩
    ·show (l.length-(intOf (a33.tmps[21]?.getD undef)).toNat)<_
     rw [s21,hmu];simp only [intOf];omega
  ·have ek:k=l.length:=by have:=Xg q19;omega
   refine wp_cond_false (ev (vb s22 q19)) ?_
   refine wp_exit ?_
   refine J7 (J7 (ib_x (Xj (wp_seq ?_))))
   refine Xe (by kernel_rfl) [41,8] [some (.slice A2 ((sfK r l p s k).length) c2),some (.slice A2 ((sfK r l p s k).length) c2)] (X7 2) [41,8] [0,1] [] (fun _ _ _=>True) (by kernel_rfl) (by rw [J];decide) ?_ (en rfl ?_ (en rfl ?_ .nil)) ?_
   ·exact fun _ _=>trivial
   ·exact YA s9 rfl rfl rfl
   ·exact Ke 0 rfl rfl rfl rfl
   intro L a35 w36 U B C K T;replace J:=B.Z J;replace F:=B.E F;have s8:=gS a35 8 (K 1 _ rfl);replace N2:=N2.below C.toBelow Xu;replace S:=Nat.le_trans S C.size;replace O:=C.below0 O;clear B C K U T s4 s6 s7 s9 s19 s20 s21 s22 b3 b4 b5;refine Xj (wp_ret ?_)
   refine bodyPost_ret (v:=.slice A2 ((sfK r l p s k).length) c2) (by simp [results,Tryz.results17,go_sem,s8]) F ?_
   have h0:=sf_yes (p:=p) (s:=s) hm
   rw [ek] at N2
   exact ⟨_,by rw [ek],by rw [h0];exact N2.mono (by omega),O⟩
set_option maxRecDepth 100000 in
set_option maxHeartbeats 3000000 in
theorem iWeak_c (r:XN) (l:List ZJ) (p:List Half) (s:XJ) (ra:Yr) (e:ZR) (b:ZR) (w:World) (hn:Xk r≤1048576) (hin:Za r) (hlin:∀ m∈l,m.In) (hs:Yo w r ra) (hnl:Y5 ra) (hlp:p.length≤1048576) (hpi:∀ h∈p,h.In) (hll:l.length≤1048576) (hsl:Sl 2 ZD w e.A l) (hsp:Sl 3 Xr w b.A p) (hnb:b.A=none→b.c=0) (hsi:s.In) :
 Calls Tryz.prog 33 #[XH r ra,.slice e.A l.length e.c,.agg #[.slice b.A p.length b.c],Yz s] w fun x w'=>x=.returned (.int .i64 (wkR r l p s))∧Below w.heap.size w w':=by
 refine Y4 Tryz.func33 rfl (n:=52) Tryz.ntmps33 (by simp) ?_
 intro a0 J F ha
 have s0:a0.tmps[0]?.getD undef=XH r ra:=ha 0 _ rfl;have s1:a0.tmps[1]?.getD undef=.slice e.A l.length e.c:=ha 1 _ rfl;have s2:a0.tmps[2]?.getD undef=.agg #[.slice b.A p.length b.c]:=ha 2 _ rfl;have s3:a0.tmps[3]?.getD undef=Yz s:=ha 3 _ rfl;clear ha
 have O:=Below.refl w.heap.size w
 have S:=Nat.le_refl w.heap.size
 refine wp_seq ?_
 refine YK [4,6,7,8] [.pointer (some ⟨w.heap.size,0,none⟩),.pointer (some ⟨(w.heap.size+1),0,none⟩),.pointer (some ⟨(w.heap.size+2),0,none⟩),.int .i64 0] [some (.cells (Y6 r ra).toArray 39),some (.cells [.slice b.A p.length b.c].toArray 37),some (.cells [.int .i64 s.x,.int .i64 s.y,.int .i64 s.d].toArray 44),none] [0,1,2,3] [4,6,7,8] [0,1,2,3] (by kernel_rfl) (by rw [J];decide) (ec ?_ (ec ?_ (ec ?_ (ec ?_ .nil)))) ?_
 ·intro a w' B hs N Q D;simp [go_sem,B.g rfl s0];rw [hs];exact D
 ·intro a w' B hs N Q D;simp [go_sem,B.g rfl s2];rw [hs];exact D
 ·intro a w' B hs N Q D;simp [go_sem,B.g rfl s3];rw [hs];exact D
 ·intro a w' B hs N Q D;simp [go_sem];exact D
 intro a1 w2 B K hb hO
 replace J:=B.size.trans J;replace F:=B.defers.trans F;replace s1:=B.g rfl s1
 have s4:a1.tmps[4]?.getD undef=.pointer (some ⟨w.heap.size,0,none⟩):=K 0 (by decide)
 have s6:a1.tmps[6]?.getD undef=.pointer (some ⟨(w.heap.size+1),0,none⟩):=K 1 (by decide)
 have s7:a1.tmps[7]?.getD undef=.pointer (some ⟨(w.heap.size+2),0,none⟩):=K 2 (by decide)
 have b3:Xy w2 w.heap.size 39 (Y6 r ra):=hO 0 _ rfl
 have b4:Xy w2 (w.heap.size+1) 37 [.slice b.A p.length b.c]:=hO 1 _ rfl
 have b5:Xy w2 (w.heap.size+2) 44 [.int .i64 s.x,.int .i64 s.y,.int .i64 s.d]:=hO 2 _ rfl
 have hG:=b5.lt
 replace O:=Xh O hb;have zw2:=Nat.le_trans S hb.size;replace S:=Nat.le_refl w2.heap.size;clear B K hb hO s0 s2 s3;refine Xj (wp_seq (wp_seq ?_))
 refine Xe (by kernel_rfl) [16,17,18,19] [some (XH r ra),some (.slice e.A l.length e.c),some (.bool (YI r l)),some (.bool (!(YI r l)))] (X7 4) [16,17,18,19] [0,1,2,3] [] (fun _ _ _=>True) (by kernel_rfl) (by rw [J];decide) ?_ (en rfl ?_ (en rfl ?_ (en rfl ?_ (en rfl ?_ .nil)))) ?_
 ·exact fun _ _=>trivial
 ·intro R M I H _ _ D
  simp [go_sem,H.f.g rfl s4,(b3.k0 H.k).cell]
  exact (D _ _ H.k rfl trivial)
 ·exact YA s1 rfl rfl rfl
 ·intro R M I H _ _ D
  simp [go_sem,(gS M 16 (H.d 0 rfl rfl)),(gS M 17 (H.d 1 rfl rfl))]
  have hBi:=H.k.below0 O
  refine (iModesOk_c r ra e.A l e.c I hn hin hll (hs.below hBi) hnl (hsl.below hBi)).mono ?_
  rintro x wx ⟨rfl,hb⟩
  exact (D _ _ (H.k.call hb) rfl trivial)
 ·exact Jn 2 rfl rfl rfl rfl
 intro L a6 w7 U B C K T;replace J:=B.Z J;replace F:=B.E F;replace s1:=B.G s1;replace s4:=B.G s4;replace s6:=B.G s6;replace s7:=B.G s7;have s19:=gS a6 19 (K 3 _ rfl);replace b3:=b3.k0 C;replace b4:=b4.k0 C;replace b5:=b5.k0 C;replace S:=Nat.le_trans S C.size;replace O:=C.below0 O;clear B C K U T;refine Xj ?_
 rcases Bool.eq_false_or_eq_true (!(YI r l)) with q8|q8
 ·refine wp_cond_true (ev (vb s19 q8)) ?_
  refine wp_seq ?_
  refine Xe (by kernel_rfl) [8] [some (.int .i64 (-1))] (X7 1) [8] [0] [] (fun _ _ _=>True) (by kernel_rfl) (by rw [J];decide) ?_ (en rfl ?_ .nil) ?_
  ·exact fun _ _=>trivial
  ·exact Kk rfl rfl
  intro L a9 w10 U B C K T;replace J:=B.Z J;replace F:=B.E F;have s8:=gS a9 8 (K 0 _ rfl);replace S:=Nat.le_trans S C.size;replace O:=C.below0 O;clear B C K U T s1 s4 s6 s7 s19 b3 b4 b5;refine Xj (wp_ret (YY ?_))
  refine bodyPost_ret (v:=.int .i64 (-1)) (by simp [results,Tryz.results33,go_sem,s8]) F ?_
  exact ⟨by rw [wk_no (p:=p) (s:=s) (not_t q8)],O⟩
 ·have hm:=Zv q8
  have hl4:=(modes_room hm).2.2
  have hm4:=modes_map hm
  refine wp_cond_false (ev (vb s19 q8)) ?_
  refine wp_skip (Xj (wp_seq ?_))
  refine Xe (by kernel_rfl) [9,10] [some (.int .i64 (-1)),some (.int .i64 0)] (X7 2) [9,10] [0,1] [] (fun _ _ _=>True) (by kernel_rfl) (by rw [J];decide) ?_ (en rfl ?_ (en rfl ?_ .nil)) ?_
  ·exact fun _ _=>trivial
  ·exact Kk rfl rfl
  ·exact Kk rfl rfl
  intro L a11 w12 U B C K T;replace J:=B.Z J;replace F:=B.E F;replace s1:=B.G s1;replace s4:=B.G s4;replace s6:=B.G s6;replace s7:=B.G s7;have s9:=gS a11 9 (K 0 _ rfl);have s10:=gS a11 10 (K 1 _ rfl);replace b3:=b3.k0 C;replace b4:=b4.k0 C;replace b5:=b5.k0 C;replace S:=Nat.le_trans S C.size;replace O:=C.below0 O;clear B C K U T s19;refine Xj (wp_seq (wp_seq ?_))
  refine Xe (by kernel_rfl) [20,21,22] [some (.slice e.A l.length e.c),some (.int .i64 (l.length:Int)),some (.int .i64 0)] (X7 3) [20,21,22] [0,1,2] [] (fun _ _ _=>True) (by kernel_rfl) (by rw [J];decide) ?_ (en rfl ?_ (en rfl ?_ (en rfl ?_ .nil))) ?_
  ·exact fun _ _=>trivial
  ·exact YA s1 rfl rfl rfl
  ·intro R M I H _ _ D
   simp [go_sem,(gS M 20 (H.d 0 rfl rfl))]
   exact (D _ _ H.k rfl trivial)
  ·exact oMCT rfl rfl
  intro L a13 w14 U B C K T;replace J:=B.Z J;replace F:=B.E F;replace s4:=B.G s4;replace s6:=B.G s6;replace s7:=B.G s7;replace s9:=B.G s9;replace s10:=B.G s10;have s20:=gS a13 20 (K 0 _ rfl);have s21:=gS a13 21 (K 1 _ rfl);have s22:=gS a13 22 (K 2 _ rfl);replace b3:=b3.k0 C;replace b4:=b4.k0 C;replace b5:=b5.k0 C;replace S:=Nat.le_trans S C.size;replace O:=C.below0 O;clear B C K U T s1;refine Xj (wp_block ?_)
  refine wp_loop (fun al wl=>al.tmps.size=52∧al.defers=[]∧∃ (k:Nat),(k≤l.length)∧(wkAll r l p s k=true)∧al.tmps[4]?.getD undef=.pointer (some ⟨w.heap.size,0,none⟩)∧al.tmps[6]?.getD undef=.pointer (some ⟨(w.heap.size+1),0,none⟩)∧al.tmps[7]?.getD undef=.pointer (some ⟨(w.heap.size+2),0,none⟩)∧al.tmps[9]?.getD undef=.int .i64 ((wkS r l p s k).1)∧al.tmps[10]?.getD undef=.int .i64 ((wkS r l p s k).2)∧al.tmps[20]?.getD undef=.slice e.A l.length e.c∧al.tmps[21]?.getD undef=.int .i64 (l.length:Int)∧al.tmps[22]?.getD undef=.int .i64 (k:Int)∧Xy wl w.heap.size 39 (Y6 r ra)∧Xy wl (w.heap.size+1) 37 [.slice b.A p.length b.c]∧Xy wl (w.heap.size+2) 44 [.int .i64 s.x,.int .i64 s.y,.int .i64 s.d]∧Below w.heap.size w wl∧w2.heap.size≤wl.heap.size) (fun al _=>(l.length-(intOf (al.tmps[22]?.getD undef)).toNat)) ?_ ?_
  ·exact ⟨J,F,(0),(Nat.zero_le _),(rfl),s4,s6,s7,s9,s10,s20,s21,s22,b3,b4,b5,O,(by omega)⟩
  clear J F O S s4 s6 s7 s9 s10 s20 s21 s22 b3 b4 b5
  rintro a15 w16 ⟨J,F,k,hk,hall,s4,s6,s7,s9,s10,s20,s21,s22,b3,b4,b5,O,S⟩
  have zw16:=S;replace S:=Nat.le_refl w16.heap.size
  have hmu:(l.length-(intOf (a15.tmps[22]?.getD undef)).toNat)=(l.length-(intOf ((.int .i64 (k:Int)))).toNat):=by rw [s22]
  refine wp_seq ?_
  refine Xe (by kernel_rfl) [23] [some (.bool (decide ((k:Int)<(l.length:Int))))] (X7 1) [23] [0] [] (fun _ _ _=>True) (by kernel_rfl) (by rw [J];decide) ?_ (en rfl ?_ .nil) ?_
  ·exact fun _ _=>trivial
  ·exact fun R M I H _ _ D=>Yc rfl (ev (H.f.g rfl s22)) (ev (H.f.g rfl s21)) rfl rfl (D _ _ H.k rfl trivial)
  intro L a17 w18 U B C K T;replace J:=B.Z J;replace F:=B.E F;replace s4:=B.G s4;replace s6:=B.G s6;replace s7:=B.G s7;replace s9:=B.G s9;replace s10:=B.G s10;replace s20:=B.G s20;replace s21:=B.G s21;replace s22:=B.G s22;have s23:=gS a17 23 (K 0 _ rfl);replace b3:=b3.k0 C;replace b4:=b4.k0 C;replace b5:=b5.k0 C;replace S:=Nat.le_trans S C.size;replace O:=C.below0 O;clear B C K U T;refine Xj (wp_seq ?_)
  rcases Bool.eq_false_or_eq_true (decide ((k:Int)<(l.length:Int))) with q19|q19
  ·have hkl:k<l.length:=by have:=Ki q19;omega
   obtain ⟨bl,ol,el,fe⟩:=ElS.open_ (hsl.below O) (by omega)
   refine wp_cond_true (ev (vb s23 q19)) ?_
   refine wp_skip (Xj (wp_seq (wp_block (wp_seq ?_))))
   have P:XI [12] (fun L aa I=>(L 3=true→Ye w18 aa I 12 132 [.int .i64 0,.int .i64 0] (L 5) (fun _ vs=>vs=[.int .i64 ((l.getD k Xw).low),.int .i64 ((l.getD k Xw).high)]))):=by
    intro L aa I w' kk vv hkk hb T
    have x0:=T
    exact (fun h=>((x0 h).bel hb (fun _ h=>h)).put (hkk 12 (by simp)) _)
   refine Xx P (by kernel_rfl) [24,25,26,12,11,0] [some (.int .i64 (k:Int)),some (.pointer (some ⟨bl,ol+k*2,none⟩)),some (.agg #[.int .i64 ((l.getD k Xw).low),.int .i64 ((l.getD k Xw).high)]),none,some (.int .i64 (k:Int)),none] (X7 6) [24,25,26,12,11] [0,1,2,3,4,5] [] (by kernel_rfl) (by rw [J];decide) ?_ (en rfl ?_ (en rfl ?_ (en rfl ?_ (en rfl ?_ (en rfl ?_ (en rfl ?_ .nil)))))) ?_
   ·exact fun _ h=>(fun h=>by cases h)
   ·exact Kn s22 rfl rfl rfl fun _ _ _ _=>P.q rfl
   ·intro R M I H _ _ D
    simp [go_sem,H.f.g rfl s20,H.f.g rfl s22,hkl,el]
    exact (D _ _ H.k rfl (P.q rfl H.x))
   ·intro R M I H _ _ D
    have hE:=fe.kp H.k (by simp)
    simp [go_sem,(gS M 25 (H.d 1 rfl rfl)),(hE.at_ Xw (i:=k) (by omega) 0 (p:=ol+k*2) (by omega) rfl),(hE.at_ Xw (i:=k) (by omega) 1 (p:=ol+k*2+1) (by omega) rfl)]
    exact (D _ _ H.k rfl (P.q rfl H.x))
   ·intro R M I H _ _ D
    have x0:=H.x
    simp [go_sem]
    exact D _ _ (H.k.alloc _) trivial (fun _=>by rw [show ZB R 3 5=false from H.t 5 rfl];exact Ye.new (s:=12) (H.f.lt (by rw [J];decide)) H.k.size [.int .i64 0,.int .i64 0])
   ·exact JC 0 rfl rfl rfl rfl fun _ _ _ _=>P.q rfl
   ·intro R M I H _ _ D
    have x0:=H.x
    obtain ⟨g,eg,hg,y,_⟩:=x0 (H.r 3 rfl)
    have V:=y H.n
    simp [go_sem,(gS M 26 (H.d 2 rfl rfl)),eg,V.cell,V.frz]
    exact D undef _ (H.k.store (.inl hg) [.int .i64 ((l.getD k Xw).low),.int .i64 ((l.getD k Xw).high)] 0) trivial (fun _=>Ye.set eg hg V (us:=[.int .i64 ((l.getD k Xw).low),.int .i64 ((l.getD k Xw).high)]) rfl rfl)
   intro L a20 w21 U B C K T;have x0:=T;replace J:=B.Z J;replace F:=B.E F;replace s4:=B.G s4;replace s6:=B.G s6;replace s7:=B.G s7;replace s9:=B.G s9;replace s10:=B.G s10;replace s20:=B.G s20;replace s21:=B.G s21;replace s22:=B.G s22;have s11:=gS a20 11 (K 4 _ rfl);replace b3:=b3.k0 C;replace b4:=b4.k0 C;replace b5:=b5.k0 C
   obtain ⟨g22,s12,lg22,-,b22⟩:=x0 (U 3 (by decide))
   obtain ⟨_,b22,rfl⟩:=b22 (U 5 (by decide))
   have ug22:=b22.lt
   have zw18:=S;have zw21:=C.size;replace S:=Nat.le_refl w21.heap.size;replace O:=C.below0 O;clear B C K U x0 P s23 fe;refine Xj (wp_seq ?_)
   have P:XI [13,30] (fun L aa I=>(L 2=true→(fun I v=>∃ m1,v=XH (ZG r (l.getD k Xw)) m1∧X0 I w21.heap.size (ZG r (l.getD k Xw)) m1) I (aa.tmps[30]?.getD undef))∧(L 9=true→Ye w21 aa I 13 72 [.int .i64 0,.int .i64 0,.int .i64 0,.int .i64 0] (L 10) (fun _ vs=>vs=[.int .i64 (((XO (ZG r (l.getD k Xw)) p s).getD Xd).low.n),.int .i64 (((XO (ZG r (l.getD k Xw)) p s).getD Xd).low.d),.int .i64 (((XO (ZG r (l.getD k Xw)) p s).getD Xd).high.n),.int .i64 (((XO (ZG r (l.getD k Xw)) p s).getD Xd).high.d)]))):=by
    intro L aa I w' kk vv hkk hb T
    obtain ⟨x0,x1⟩:=T
    exact ⟨(fun h=>by rw [Xb (hkk 30 (by simp))];obtain ⟨m1',e,f1'⟩:=x0 h;exact ⟨m1',e,f1'.below hb Xu⟩),(fun h=>((x1 h).bel hb (fun _ h=>h)).put (hkk 13 (by simp)) _)⟩
   refine Xx P (by kernel_rfl) [28,29,30,31,32,33,27,34,35,13,0,14] [some (XH r ra),some (.agg #[.int .i64 ((l.getD k Xw).low),.int .i64 ((l.getD k Xw).high)]),none,some (.agg #[.slice b.A p.length b.c]),some (Yz s),some (.tuple #[Yf ((XO (ZG r (l.getD k Xw)) p s).getD Xd),.bool ((XO (ZG r (l.getD k Xw)) p s).isSome)]),some (.tuple #[Yf ((XO (ZG r (l.getD k Xw)) p s).getD Xd),.bool ((XO (ZG r (l.getD k Xw)) p s).isSome)]),some (Yf ((XO (ZG r (l.getD k Xw)) p s).getD Xd)),some (.bool ((XO (ZG r (l.getD k Xw)) p s).isSome)),none,none,some (.bool ((XO (ZG r (l.getD k Xw)) p s).isSome))] ([[],[],[0,1],[],[],[0,1,2,3,4],[0,1,2,3,4,5],[0,1,2,3,4,5,6],[0,1,2,3,4,5,6],[],[0,1,2,3,4,5,6,7,9],[0,1,2,3,4,5,6,7,8,9,10]]) [28,29,30,31,32,33,27,34,35,13,14] [0,1,2,3,4,5,6,7,8,9,10,11] [] (by kernel_rfl) (by rw [J];decide) ?_ (en rfl ?_ (en rfl ?_ (en rfl ?_ (en rfl ?_ (en rfl ?_ (en rfl ?_ (en rfl ?_ (en rfl ?_ (en rfl ?_ (en rfl ?_ (en rfl ?_ (en rfl ?_ .nil)))))))))))) ?_
   ·exact fun _ h=>⟨(fun h=>by cases h),(fun h=>by cases h)⟩
   ·intro R M I H _ _ D
    simp [go_sem,H.f.g rfl s4,(b3.k0 H.k).cell]
    exact (D _ _ H.k rfl (P.q rfl H.x))
   ·intro R M I H _ _ D
    simp [go_sem,H.f.g rfl s12,(b22.k0 H.k).cell]
    exact (D _ _ H.k rfl (P.q rfl H.x))
   ·intro R M I H _ _ D
    obtain ⟨x0,x1⟩:=H.x
    simp [go_sem,(gS M 28 (H.d 0 rfl rfl)),(gS M 29 (H.d 1 rfl rfl))]
    have hBi:=H.k.below0 O
    refine (iInMode_c r ra (l.getD k Xw) I hn (hs.below hBi)).mono ?_
    rintro x wx ⟨m1,rfl,f0,hb⟩
    have f1:=f0.mono H.k.size
    exact (D _ _ (H.k.call hb) trivial ⟨(fun _=>by rw [Xc (H.f.lt (by rw [J];decide))];exact ⟨m1,rfl,f1⟩),(fun h=>((x1 h).bel hb (fun _ h=>h)).put (by decide) _)⟩)
   ·intro R M I H _ _ D
    simp [go_sem,H.f.g rfl s6,(b4.k0 H.k).cell]
    exact (D _ _ H.k rfl (P.q rfl H.x))
   ·intro R M I H _ _ D
    simp [go_sem,H.f.g rfl s7,(b5.k0 H.k).cell]
    exact (D _ _ H.k rfl (P.q rfl H.x))
   ·intro R M I H _ _ D
    obtain ⟨x0,x1⟩:=H.x
    obtain ⟨m1,ee2,f1⟩:=x0 (H.r 2 rfl)
    simp [go_sem,ee2,(gS M 31 (H.d 3 rfl rfl)),(gS M 32 (H.d 4 rfl rfl))]
    have hBi:=H.k.below0 O
    refine (iAdmAt_c (ZG r (l.getD k Xw)) p s m1 b I hn (inM_in hin (hlin _ (Jk hkl Xw))) f1.sl f1.nil hlp hpi (hsp.below hBi) hnb hsi).mono ?_
    rintro x wx ⟨rfl,hb⟩
    exact (D _ _ (H.k.call hb) (YQ _) (P.b rfl hb H.x))
   ·exact oMDX 5 rfl rfl rfl rfl fun _ _ _ _=>P.q rfl
   ·exact Jp 6 rfl rfl rfl rfl rfl fun _ _ _ _=>P.q rfl
   ·exact Jp 6 rfl rfl rfl rfl rfl fun _ _ _ _=>P.q rfl
   ·intro R M I H _ _ D
    obtain ⟨x0,x1⟩:=H.x
    simp [go_sem]
    exact D _ _ (H.k.alloc _) trivial ⟨(fun h=>by rw [Xb (by decide)];obtain ⟨m1',e,f1'⟩:=x0 h;exact ⟨m1',e,f1'.below (Xm bR _) Xu⟩),(fun _=>by rw [show ZB R 9 10=false from H.t 10 rfl];exact Ye.new (s:=13) (H.f.lt (by rw [J];decide)) H.k.size [.int .i64 0,.int .i64 0,.int .i64 0,.int .i64 0])⟩
   ·intro R M I H _ _ D
    obtain ⟨x0,x1⟩:=H.x
    obtain ⟨g,eg,hg,y,_⟩:=x1 (H.r 9 rfl)
    have V:=y H.n
    simp [go_sem,(gS M 34 (H.d 7 rfl rfl)),eg,V.cell,V.frz]
    exact D undef _ (H.k.store (.inl hg) [.int .i64 (((XO (ZG r (l.getD k Xw)) p s).getD Xd).low.n),.int .i64 (((XO (ZG r (l.getD k Xw)) p s).getD Xd).low.d),.int .i64 (((XO (ZG r (l.getD k Xw)) p s).getD Xd).high.n),.int .i64 (((XO (ZG r (l.getD k Xw)) p s).getD Xd).high.d)] 0) trivial ⟨(fun h=>by obtain ⟨m1',e,f1'⟩:=x0 h;exact ⟨m1',e,f1'.otherT V (by decide) (by decide) [.int .i64 (((XO (ZG r (l.getD k Xw)) p s).getD Xd).low.n),.int .i64 (((XO (ZG r (l.getD k Xw)) p s).getD Xd).low.d),.int .i64 (((XO (ZG r (l.getD k Xw)) p s).getD Xd).high.n),.int .i64 (((XO (ZG r (l.getD k Xw)) p s).getD Xd).high.d)] 0⟩),(fun _=>Ye.set eg hg V (us:=[.int .i64 (((XO (ZG r (l.getD k Xw)) p s).getD Xd).low.n),.int .i64 (((XO (ZG r (l.getD k Xw)) p s).getD Xd).low.d),.int .i64 (((XO (ZG r (l.getD k Xw)) p s).getD Xd).high.n),.int .i64 (((XO (ZG r (l.getD k Xw)) p s).getD Xd).high.d)]) rfl rfl)⟩
   ·exact JC 8 rfl rfl rfl rfl fun _ _ _ _=>P.q rfl
   intro L a23 w24 U B C K T
   obtain ⟨x0,x1⟩:=T
   replace J:=B.Z J;replace F:=B.E F;replace s4:=B.G s4;replace s6:=B.G s6;replace s7:=B.G s7;replace s9:=B.G s9;replace s10:=B.G s10;replace s20:=B.G s20;replace s21:=B.G s21;replace s22:=B.G s22;replace s11:=B.G s11;have s14:=gS a23 14 (K 11 _ rfl);replace b3:=b3.k0 C;replace b4:=b4.k0 C;replace b5:=b5.k0 C
   obtain ⟨g25,s13,lg25,-,b25⟩:=x1 (U 9 (by decide))
   obtain ⟨_,b25,rfl⟩:=b25 (U 10 (by decide))
   have ug25:=b25.lt
   have zw24:=C.size;replace S:=Nat.le_refl w24.heap.size;replace O:=C.below0 O;clear B C K U x0 x1 P s12 b22;refine Xj (wp_seq (wp_seq ?_))
   refine Xe (by kernel_rfl) [36,37] [some (.bool ((XO (ZG r (l.getD k Xw)) p s).isSome)),some (.bool (!((XO (ZG r (l.getD k Xw)) p s).isSome)))] (X7 2) [36,37] [0,1] [] (fun _ _ _=>True) (by kernel_rfl) (by rw [J];decide) ?_ (en rfl ?_ (en rfl ?_ .nil)) ?_
   ·exact fun _ _=>trivial
   ·exact YA s14 rfl rfl rfl
   ·exact Jn 0 rfl rfl rfl rfl
   intro L a26 w27 U B C K T;replace J:=B.Z J;replace F:=B.E F;replace s4:=B.G s4;replace s6:=B.G s6;replace s7:=B.G s7;replace s9:=B.G s9;replace s10:=B.G s10;replace s20:=B.G s20;replace s21:=B.G s21;replace s22:=B.G s22;replace s11:=B.G s11;replace s13:=B.G s13;have s37:=gS a26 37 (K 1 _ rfl);replace b3:=b3.k0 C;replace b4:=b4.k0 C;replace b5:=b5.k0 C;replace b25:=b25.k0 C;replace S:=Nat.le_trans S C.size;replace O:=C.below0 O;clear B C K U T s14;refine Xj ?_
   rcases Bool.eq_false_or_eq_true (!((XO (ZG r (l.getD k Xw)) p s).isSome)) with q28|q28
   ·refine wp_cond_true (ev (vb s37 q28)) ?_
    refine wp_seq ?_
    refine Xe (by kernel_rfl) [38,8] [some (.int .i64 (k:Int)),some (.int .i64 (k:Int))] (X7 2) [38,8] [0,1] [] (fun _ _ _=>True) (by kernel_rfl) (by rw [J];decide) ?_ (en rfl ?_ (en rfl ?_ .nil)) ?_
    ·exact fun _ _=>trivial
    ·exact YA s11 rfl rfl rfl
    ·exact Ke 0 rfl rfl rfl rfl
    intro L a29 w30 U B C K T;replace J:=B.Z J;replace F:=B.E F;have s8:=gS a29 8 (K 1 _ rfl);replace S:=Nat.le_trans S C.size;replace O:=C.below0 O;clear B C K U T s4 s6 s7 s9 s10 s20 s21 s22 s11 s13 s37 b3 b4 b5 b25;refine Xj (wp_ret ?_);refine YY (JD (YY (YY (JD (YY ?_)))))
    refine bodyPost_ret (v:=.int .i64 (k:Int)) (by simp [results,Tryz.results33,go_sem,s8]) F ?_
    exact ⟨by rw [wk_stop (p:=p) (s:=s) hm hkl hall (not_t q28)],O⟩
   ·have hwin:((XO (ZG r (l.getD k Xw)) p s).getD Xd).In:=optIn (fun _ hv=>admAt_ok hv)
    refine wp_cond_false (ev (vb s37 q28)) ?_
    refine wp_skip (Xj (wp_seq ?_))
    refine Xe (by kernel_rfl) [39,40,15] [some (Yf ((XO (ZG r (l.getD k Xw)) p s).getD Xd)),some (.int .i64 (wkN r l p s k)),some (.int .i64 (wkN r l p s k))] (X7 3) [39,40,15] [0,1,2] [] (fun _ _ _=>True) (by kernel_rfl) (by rw [J];decide) ?_ (en rfl ?_ (en rfl ?_ (en rfl ?_ .nil))) ?_
    ·exact fun _ _=>trivial
    ·intro R M I H _ _ D
     simp [go_sem,H.f.g rfl s13,(b25.k0 H.k).cell]
     exact (D _ _ H.k rfl trivial)
    ·intro R M I H _ _ D
     simp [go_sem,(gS M 39 (H.d 0 rfl rfl))]
     refine (iWho_c ((XO (ZG r (l.getD k Xw)) p s).getD Xd) I hwin).mono ?_
     rintro x wx ⟨rfl,hb⟩
     exact (D _ _ (H.k.call hb) rfl trivial)
    ·exact Ke 1 rfl rfl rfl rfl
    intro L a31 w32 U B C K T;replace J:=B.Z J;replace F:=B.E F;replace s4:=B.G s4;replace s6:=B.G s6;replace s7:=B.G s7;replace s9:=B.G s9;replace s10:=B.G s10;replace s20:=B.G s20;replace s21:=B.G s21;replace s22:=B.G s22;replace s11:=B.G s11;have s15:=gS a31 15 (K 2 _ rfl);replace b3:=b3.k0 C;replace b4:=b4.k0 C;replace b5:=b5.k0 C;replace S:=Nat.le_trans S C.size;replace O:=C.below0 O;clear B C K U T s13 s37 b25;refine Xj (wp_seq ?_)
    refine Xe (by kernel_rfl) [41,42,43,44,45,46,47] [some (.int .i64 ((wkS r l p s k).1)),some (.bool (decide ((wkS r l p s k).1<0))),some (.bool (decide ((wkS r l p s k).1<0))),some ((bif decide ((wkS r l p s k).1<0) then undef else (.int .i64 (wkN r l p s k):Value))),some ((bif decide ((wkS r l p s k).1<0) then undef else (.int .i64 ((wkS r l p s k).2):Value))),some ((bif decide ((wkS r l p s k).1<0) then undef else (.bool (decide (wkN r l p s k<(wkS r l p s k).2)):Value))),some (.bool (decide ((wkS r l p s k).1<0)||decide (wkN r l p s k<(wkS r l p s k).2)))] (X7 7) [41,42,43,44,45,46,47] [0,1,2,3,4,5,6] [] (fun _ _ _=>True) (by kernel_rfl) (by rw [J];decide) ?_ (en rfl ?_ (en rfl ?_ (en rfl ?_ (eg ?_ (eg ?_ (eg ?_ (en rfl ?_ .nil))))))) ?_
    ·exact fun _ _=>trivial
    ·exact YA s9 rfl rfl rfl
    ·exact fun R M I H _ _ D=>Yc rfl (ev (H.d 0 rfl rfl)) rfl rfl rfl (D _ _ H.k rfl trivial)
    ·exact Jj 1 rfl rfl rfl rfl
    ·intro R M I H _ _ D
     refine KZ rfl rfl rfl (H.d 2 rfl rfl) (fun qg=>D _ _ H.k (XM qg).symm trivial) fun qg=>?_
     exact XF rfl (ev (H.f.g rfl s15)) (D _ _ H.k (XA qg).symm trivial)
    ·intro R M I H _ _ D
     refine KZ rfl rfl rfl (H.d 2 rfl rfl) (fun qg=>D _ _ H.k (XM qg).symm trivial) fun qg=>?_
     exact XF rfl (ev (H.f.g rfl s10)) (D _ _ H.k (XA qg).symm trivial)
    ·intro R M I H _ _ D
     refine KZ rfl rfl rfl (H.d 2 rfl rfl) (fun qg=>D _ _ H.k (XM qg).symm trivial) fun qg=>?_
     exact Yc rfl (ev ((H.d 3 rfl rfl).trans (XA qg))) (ev ((H.d 4 rfl rfl).trans (XA qg))) rfl rfl (D _ _ H.k (XA qg).symm trivial)
    ·exact oPOT 2 5 rfl rfl rfl rfl rfl rfl
    intro L a33 w34 U B C K T;replace J:=B.Z J;replace F:=B.E F;replace s4:=B.G s4;replace s6:=B.G s6;replace s7:=B.G s7;replace s9:=B.G s9;replace s10:=B.G s10;replace s20:=B.G s20;replace s21:=B.G s21;replace s22:=B.G s22;replace s11:=B.G s11;replace s15:=B.G s15;have s47:=gS a33 47 (K 6 _ rfl);replace b3:=b3.k0 C;replace b4:=b4.k0 C;replace b5:=b5.k0 C;replace S:=Nat.le_trans S C.size;replace O:=C.below0 O;clear B C K U T;refine Xj ?_
    rcases Bool.eq_false_or_eq_true (decide ((wkS r l p s k).1<0)||decide (wkN r l p s k<(wkS r l p s k).2)) with q35|q35
    ·refine wp_cond_true (ev (vb s47 q35)) ?_
     refine Xe (by kernel_rfl) [48,49,9,10] [some (.int .i64 (k:Int)),some (.int .i64 (wkN r l p s k)),some (.int .i64 (k:Int)),some (.int .i64 (wkN r l p s k))] (X7 4) [48,49,9,10] [0,1,2,3] [] (fun _ _ _=>True) (by kernel_rfl) (by rw [J];decide) ?_ (en rfl ?_ (en rfl ?_ (en rfl ?_ (en rfl ?_ .nil)))) ?_
     ·exact fun _ _=>trivial
     ·exact YA s11 rfl rfl rfl
     ·exact YA s15 rfl rfl rfl
     ·exact Ke 0 rfl rfl rfl rfl
     ·exact Ke 1 rfl rfl rfl rfl
     intro L a36 w37 U B C K T;replace J:=B.Z J;replace F:=B.E F;replace s4:=B.G s4;replace s6:=B.G s6;replace s7:=B.G s7;replace s20:=B.G s20;replace s21:=B.G s21;replace s22:=B.G s22;have s9:=gS a36 9 (K 2 _ rfl);have s10:=gS a36 10 (K 3 _ rfl);replace b3:=b3.k0 C;replace b4:=b4.k0 C;replace b5:=b5.k0 C;replace S:=Nat.le_trans S C.size;replace O:=C.below0 O;clear B C K U T s11 s15 s47;refine J0 (Xj ?_)
     refine Xe (by kernel_rfl) [50,22] [some (.int .i64 ((k:Int)+1)),some (.int .i64 ((k:Int)+1))] (X7 2) [50,22] [0,1] [] (fun L aa I=>(L 1=false→aa.tmps[22]?.getD undef=.int .i64 (k:Int))) (by kernel_rfl) (by rw [J];decide) ?_ (en rfl ?_ (en rfl ?_ .nil)) ?_
     ·exact fun _ h=>(fun _=>s22)
     ·intro R M I H _ _ D
      have x0:=H.x
      exact ZY rfl (ev (x0 (H.t 1 rfl))) rfl (by omega) (D _ _ H.k rfl (fun h=>(Xb (by decide) _).trans (x0 h)))
     ·intro R M I H _ _ D
      have x0:=H.x
      exact XF rfl (ev (H.d 0 rfl rfl)) (D _ _ H.k rfl (fun h=>by simp [ZB] at h))
     intro L a38 w39 U B C K T;have x0:=T;replace J:=B.Z J;replace F:=B.E F;replace s4:=B.G s4;replace s6:=B.G s6;replace s7:=B.G s7;replace s20:=B.G s20;replace s21:=B.G s21;replace s9:=B.G s9;replace s10:=B.G s10;have s22:=gS a38 22 (K 1 _ rfl);replace b3:=b3.k0 C;replace b4:=b4.k0 C;replace b5:=b5.k0 C;replace S:=Nat.le_trans S C.size;replace O:=C.below0 O;clear B C K U x0;refine Xj ?_
     refine ⟨?_, ?_⟩
     ·exact ⟨J,F,(k+1),(by omega),(wkAll_next hall (Zv q28)),s4,s6,s7,(by rw [wkS_upd (r:=r) (l:=l) (p:=p) (s:=s) (k:=k) (or_dec q35)];exact s9),(by rw [wkS_upd (r:=r) (l:=l) (p:=p) (s:=s) (k:=k) (or_dec q35)];exact s10),s20,s21,s22,b3,b4,b5,O,(by omega)⟩
     ·show (l.length-(intOf (a38.tmps[22]?.getD undef)).toNat)<_
      rw [s22,hmu];simp only [intOf];omega
    ·refine wp_cond_false (ev (vb s47 q35)) ?_
     refine wp_skip ?_;refine J0 (Xj ?_)
     refine Xe (by kernel_rfl) [50,22] [some (.int .i64 ((k:Int)+1)),some (.int .i64 ((k:Int)+1))] (X7 2) [50,22] [0,1] [] (fun L aa I=>(L 1=false→aa.tmps[22]?.getD undef=.int .i64 (k:Int))) (by kernel_rfl) (by rw [J];decide) ?_ (en rfl ?_ (en rfl ?_ .nil)) ?_
     ·exact fun _ h=>(fun _=>s22)
     ·intro R M I H _ _ D
      have x0:=H.x
      exact ZY rfl (ev (x0 (H.t 1 rfl))) rfl (by omega) (D _ _ H.k rfl (fun h=>(Xb (by decide) _).trans (x0 h)))
     ·intro R M I H _ _ D
      have x0:=H.x
      exact XF rfl (ev (H.d 0 rfl rfl)) (D _ _ H.k rfl (fun h=>by simp [ZB] at h))
     intro L a40 w41 U B C K T;have x0:=T;replace J:=B.Z J;replace F:=B.E F;replace s4:=B.G s4;replace s6:=B.G s6;replace s7:=B.G s7;replace s9:=B.G s9;replace s10:=B.G s10;replace s20:=B.G s20;replace s21:=B.G s21;have s22:=gS a40 22 (K 1 _ rfl);replace b3:=b3.k0 C;replace b4:=b4.k0 C;replace b5:=b5.k0 C;replace S:=Nat.le_trans S C.size;replace O:=C.below0 O;clear B C K U x0 s11 s15 s47;refine Xj ?_
     refine ⟨?_, ?_⟩
     ·exact ⟨J,F,(k+1),(by omega),(wkAll_next hall (Zv q28)),s4,s6,s7,(by rw [wkS_keep (r:=r) (l:=l) (p:=p) (s:=s) (k:=k) (Xg (KB q35)) (Xg (JZ q35))];exact s9),(by rw [wkS_keep (r:=r) (l:=l) (p:=p) (s:=s) (k:=k) (Xg (KB q35)) (Xg (JZ q35))];exact s10),s20,s21,s22,b3,b4,b5,O,(by omega)⟩
     ·show (l.length-(intOf (a40.tmps[22]?.getD undef)).toNat)<_
      rw [s22,hmu];simp only [intOf];omega
  ·have ek:k=l.length:=by have:=Xg q19;omega
   refine wp_cond_false (ev (vb s23 q19)) ?_
   refine wp_exit ?_
   refine J7 (J7 (ib_x (Xj (wp_seq ?_))))
   refine Xe (by kernel_rfl) [51,8] [some (.int .i64 ((wkS r l p s k).1)),some (.int .i64 ((wkS r l p s k).1))] (X7 2) [51,8] [0,1] [] (fun _ _ _=>True) (by kernel_rfl) (by rw [J];decide) ?_ (en rfl ?_ (en rfl ?_ .nil)) ?_
   ·exact fun _ _=>trivial
   ·exact YA s9 rfl rfl rfl
   ·exact Ke 0 rfl rfl rfl rfl
   intro L a42 w43 U B C K T;replace J:=B.Z J;replace F:=B.E F;have s8:=gS a42 8 (K 1 _ rfl);replace S:=Nat.le_trans S C.size;replace O:=C.below0 O;clear B C K U T s4 s6 s7 s9 s10 s20 s21 s22 s23 b3 b4 b5;refine Xj (wp_ret ?_)
   refine bodyPost_ret (v:=.int .i64 ((wkS r l p s k).1)) (by simp [results,Tryz.results33,go_sem,s8]) F ?_
   rw [ek] at hall
   exact ⟨by rw [wk_end hm hall,ek],O⟩
set_option maxRecDepth 100000 in
set_option maxHeartbeats 3000000 in
theorem sWeak_c (r:XN) (l:List ZJ) (p:List Half) (s:XJ) (ra:Yr) (e:ZR) (b:ZR) (w:World) (hn:Xk r≤1048576) (hin:Za r) (hlin:∀ m∈l,m.In) (hs:Yo w r ra) (hnl:Y5 ra) (hlp:p.length≤1048576) (hpi:∀ h∈p,h.In) (hll:l.length≤1048576) (hsl:Sl 2 ZD w e.A l) (hsp:Sl 3 Xr w b.A p) (hnb:b.A=none→b.c=0) (hsi:s.In) :
 Calls Tryz.prog 32 #[XH r ra,.slice e.A l.length e.c,.agg #[.slice b.A p.length b.c],Yz s] w fun x w'=>x=.returned (.int .i64 (wkR r l p s))∧Below w.heap.size w w':=by
 refine Y4 Tryz.func32 rfl (n:=51) Tryz.ntmps32 (by simp) ?_
 intro a0 J F ha
 have s0:a0.tmps[0]?.getD undef=XH r ra:=ha 0 _ rfl;have s1:a0.tmps[1]?.getD undef=.slice e.A l.length e.c:=ha 1 _ rfl;have s2:a0.tmps[2]?.getD undef=.agg #[.slice b.A p.length b.c]:=ha 2 _ rfl;have s3:a0.tmps[3]?.getD undef=Yz s:=ha 3 _ rfl;clear ha
 have O:=Below.refl w.heap.size w
 have S:=Nat.le_refl w.heap.size
 refine wp_seq ?_
 refine YK [4,6,7,8] [.pointer (some ⟨w.heap.size,0,none⟩),.pointer (some ⟨(w.heap.size+1),0,none⟩),.pointer (some ⟨(w.heap.size+2),0,none⟩),.int .i64 0] [some (.cells (Y6 r ra).toArray 39),some (.cells [.slice b.A p.length b.c].toArray 37),some (.cells [.int .i64 s.x,.int .i64 s.y,.int .i64 s.d].toArray 44),none] [0,1,2,3] [4,6,7,8] [0,1,2,3] (by kernel_rfl) (by rw [J];decide) (ec ?_ (ec ?_ (ec ?_ (ec ?_ .nil)))) ?_
 ·intro a w' B hs N Q D;simp [go_sem,B.g rfl s0];rw [hs];exact D
 ·intro a w' B hs N Q D;simp [go_sem,B.g rfl s2];rw [hs];exact D
 ·intro a w' B hs N Q D;simp [go_sem,B.g rfl s3];rw [hs];exact D
 ·intro a w' B hs N Q D;simp [go_sem];exact D
 intro a1 w2 B K hb hO
 replace J:=B.size.trans J;replace F:=B.defers.trans F;replace s1:=B.g rfl s1
 have s4:a1.tmps[4]?.getD undef=.pointer (some ⟨w.heap.size,0,none⟩):=K 0 (by decide)
 have s6:a1.tmps[6]?.getD undef=.pointer (some ⟨(w.heap.size+1),0,none⟩):=K 1 (by decide)
 have s7:a1.tmps[7]?.getD undef=.pointer (some ⟨(w.heap.size+2),0,none⟩):=K 2 (by decide)
 have b3:Xy w2 w.heap.size 39 (Y6 r ra):=hO 0 _ rfl
 have b4:Xy w2 (w.heap.size+1) 37 [.slice b.A p.length b.c]:=hO 1 _ rfl
 have b5:Xy w2 (w.heap.size+2) 44 [.int .i64 s.x,.int .i64 s.y,.int .i64 s.d]:=hO 2 _ rfl
 have hG:=b5.lt
 replace O:=Xh O hb;have zw2:=Nat.le_trans S hb.size;replace S:=Nat.le_refl w2.heap.size;clear B K hb hO s0 s2 s3;refine Xj (wp_seq ?_)
 refine Xe (by kernel_rfl) [9] [some (.int .i64 (-1))] (X7 1) [9] [0] [] (fun _ _ _=>True) (by kernel_rfl) (by rw [J];decide) ?_ (en rfl ?_ .nil) ?_
 ·exact fun _ _=>trivial
 ·exact Kk rfl rfl
 intro L a6 w7 U B C K T;replace J:=B.Z J;replace F:=B.E F;replace s1:=B.G s1;replace s4:=B.G s4;replace s6:=B.G s6;replace s7:=B.G s7;have s9:=gS a6 9 (K 0 _ rfl);replace b3:=b3.k0 C;replace b4:=b4.k0 C;replace b5:=b5.k0 C;replace S:=Nat.le_trans S C.size;replace O:=C.below0 O;clear B C K U T;refine Xj (wp_seq ?_)
 refine Xe (by kernel_rfl) [10] [some (.int .i64 0)] (X7 1) [10] [0] [] (fun _ _ _=>True) (by kernel_rfl) (by rw [J];decide) ?_ (en rfl ?_ .nil) ?_
 ·exact fun _ _=>trivial
 ·exact Kk rfl rfl
 intro L a8 w9 U B C K T;replace J:=B.Z J;replace F:=B.E F;replace s1:=B.G s1;replace s4:=B.G s4;replace s6:=B.G s6;replace s7:=B.G s7;replace s9:=B.G s9;have s10:=gS a8 10 (K 0 _ rfl);replace b3:=b3.k0 C;replace b4:=b4.k0 C;replace b5:=b5.k0 C;replace S:=Nat.le_trans S C.size;replace O:=C.below0 O;clear B C K U T;refine Xj (wp_seq (wp_seq ?_))
 refine Xe (by kernel_rfl) [15,16,17,18] [some (XH r ra),some (.slice e.A l.length e.c),some (.bool (YI r l)),some (.bool (!(YI r l)))] (X7 4) [15,16,17,18] [0,1,2,3] [] (fun _ _ _=>True) (by kernel_rfl) (by rw [J];decide) ?_ (en rfl ?_ (en rfl ?_ (en rfl ?_ (en rfl ?_ .nil)))) ?_
 ·exact fun _ _=>trivial
 ·intro R M I H _ _ D
  simp [go_sem,H.f.g rfl s4,(b3.k0 H.k).cell]
  exact (D _ _ H.k rfl trivial)
 ·exact YA s1 rfl rfl rfl
 ·intro R M I H _ _ D
  simp [go_sem,(gS M 15 (H.d 0 rfl rfl)),(gS M 16 (H.d 1 rfl rfl))]
  have hBi:=H.k.below0 O
  refine (sModesOk_c r ra e.A l e.c I hn hin hll (hs.below hBi) hnl (hsl.below hBi)).mono ?_
  rintro x wx ⟨rfl,hb⟩
  exact (D _ _ (H.k.call hb) rfl trivial)
 ·exact Jn 2 rfl rfl rfl rfl
 intro L a10 w11 U B C K T;replace J:=B.Z J;replace F:=B.E F;replace s1:=B.G s1;replace s4:=B.G s4;replace s6:=B.G s6;replace s7:=B.G s7;replace s9:=B.G s9;replace s10:=B.G s10;have s18:=gS a10 18 (K 3 _ rfl);replace b3:=b3.k0 C;replace b4:=b4.k0 C;replace b5:=b5.k0 C;replace S:=Nat.le_trans S C.size;replace O:=C.below0 O;clear B C K U T;refine Xj ?_
 rcases Bool.eq_false_or_eq_true (!(YI r l)) with q12|q12
 ·refine wp_cond_true (ev (vb s18 q12)) ?_
  refine wp_seq ?_
  refine Xe (by kernel_rfl) [8] [some (.int .i64 (-1))] (X7 1) [8] [0] [] (fun _ _ _=>True) (by kernel_rfl) (by rw [J];decide) ?_ (en rfl ?_ .nil) ?_
  ·exact fun _ _=>trivial
  ·exact Kk rfl rfl
  intro L a13 w14 U B C K T;replace J:=B.Z J;replace F:=B.E F;have s8:=gS a13 8 (K 0 _ rfl);replace S:=Nat.le_trans S C.size;replace O:=C.below0 O;clear B C K U T s1 s4 s6 s7 s9 s10 s18 b3 b4 b5;refine Xj (wp_ret (YY ?_))
  refine bodyPost_ret (v:=.int .i64 (-1)) (by simp [results,Tryz.results32,go_sem,s8]) F ?_
  exact ⟨by rw [wk_no (p:=p) (s:=s) (not_t q12)],O⟩
 ·have hm:=Zv q12
  have hl4:=(modes_room hm).2.2
  have hm4:=modes_map hm
  refine wp_cond_false (ev (vb s18 q12)) ?_
  refine wp_skip (Xj (wp_seq (wp_seq ?_)))
  refine Xe (by kernel_rfl) [19,20,21] [some (.slice e.A l.length e.c),some (.int .i64 (l.length:Int)),some (.int .i64 0)] (X7 3) [19,20,21] [0,1,2] [] (fun _ _ _=>True) (by kernel_rfl) (by rw [J];decide) ?_ (en rfl ?_ (en rfl ?_ (en rfl ?_ .nil))) ?_
  ·exact fun _ _=>trivial
  ·exact YA s1 rfl rfl rfl
  ·intro R M I H _ _ D
   simp [go_sem,(gS M 19 (H.d 0 rfl rfl))]
   exact (D _ _ H.k rfl trivial)
  ·exact oMCT rfl rfl
  intro L a15 w16 U B C K T;replace J:=B.Z J;replace F:=B.E F;replace s4:=B.G s4;replace s6:=B.G s6;replace s7:=B.G s7;replace s9:=B.G s9;replace s10:=B.G s10;have s19:=gS a15 19 (K 0 _ rfl);have s20:=gS a15 20 (K 1 _ rfl);have s21:=gS a15 21 (K 2 _ rfl);replace b3:=b3.k0 C;replace b4:=b4.k0 C;replace b5:=b5.k0 C;replace S:=Nat.le_trans S C.size;replace O:=C.below0 O;clear B C K U T s1 s18;refine Xj (wp_block ?_)
  refine wp_loop (fun al wl=>al.tmps.size=51∧al.defers=[]∧∃ (k:Nat),(k≤l.length)∧(wkAll r l p s k=true)∧al.tmps[4]?.getD undef=.pointer (some ⟨w.heap.size,0,none⟩)∧al.tmps[6]?.getD undef=.pointer (some ⟨(w.heap.size+1),0,none⟩)∧al.tmps[7]?.getD undef=.pointer (some ⟨(w.heap.size+2),0,none⟩)∧al.tmps[9]?.getD undef=.int .i64 ((wkS r l p s k).1)∧al.tmps[10]?.getD undef=.int .i64 ((wkS r l p s k).2)∧al.tmps[19]?.getD undef=.slice e.A l.length e.c∧al.tmps[20]?.getD undef=.int .i64 (l.length:Int)∧al.tmps[21]?.getD undef=.int .i64 (k:Int)∧Xy wl w.heap.size 39 (Y6 r ra)∧Xy wl (w.heap.size+1) 37 [.slice b.A p.length b.c]∧Xy wl (w.heap.size+2) 44 [.int .i64 s.x,.int .i64 s.y,.int .i64 s.d]∧Below w.heap.size w wl∧w2.heap.size≤wl.heap.size) (fun al _=>(l.length-(intOf (al.tmps[21]?.getD undef)).toNat)) ?_ ?_
  ·exact ⟨J,F,(0),(Nat.zero_le _),(rfl),s4,s6,s7,s9,s10,s19,s20,s21,b3,b4,b5,O,(by omega)⟩
  clear J F O S s4 s6 s7 s9 s10 s19 s20 s21 b3 b4 b5
  rintro a17 w18 ⟨J,F,k,hk,hall,s4,s6,s7,s9,s10,s19,s20,s21,b3,b4,b5,O,S⟩
  have zw18:=S;replace S:=Nat.le_refl w18.heap.size
  have hmu:(l.length-(intOf (a17.tmps[21]?.getD undef)).toNat)=(l.length-(intOf ((.int .i64 (k:Int)))).toNat):=by rw [s21]
  refine wp_seq ?_
  refine Xe (by kernel_rfl) [22] [some (.bool (decide ((k:Int)<(l.length:Int))))] (X7 1) [22] [0] [] (fun _ _ _=>True) (by kernel_rfl) (by rw [J];decide) ?_ (en rfl ?_ .nil) ?_
  ·exact fun _ _=>trivial
  ·exact fun R M I H _ _ D=>Yc rfl (ev (H.f.g rfl s21)) (ev (H.f.g rfl s20)) rfl rfl (D _ _ H.k rfl trivial)
  intro L a19 w20 U B C K T;replace J:=B.Z J;replace F:=B.E F;replace s4:=B.G s4;replace s6:=B.G s6;replace s7:=B.G s7;replace s9:=B.G s9;replace s10:=B.G s10;replace s19:=B.G s19;replace s20:=B.G s20;replace s21:=B.G s21;have s22:=gS a19 22 (K 0 _ rfl);replace b3:=b3.k0 C;replace b4:=b4.k0 C;replace b5:=b5.k0 C;replace S:=Nat.le_trans S C.size;replace O:=C.below0 O;clear B C K U T;refine Xj (wp_seq ?_)
  rcases Bool.eq_false_or_eq_true (decide ((k:Int)<(l.length:Int))) with q21|q21
  ·have hkl:k<l.length:=by have:=Ki q21;omega
   obtain ⟨bl,ol,el,fe⟩:=ElS.open_ (hsl.below O) (by omega)
   refine wp_cond_true (ev (vb s22 q21)) ?_
   refine wp_skip (Xj (wp_seq (wp_block (wp_seq ?_))))
   have P:XI [12] (fun L aa I=>(L 3=true→Ye w20 aa I 12 132 [.int .i64 0,.int .i64 0] (L 5) (fun _ vs=>vs=[.int .i64 ((l.getD k Xw).low),.int .i64 ((l.getD k Xw).high)]))):=by
    intro L aa I w' kk vv hkk hb T
    have x0:=T
    exact (fun h=>((x0 h).bel hb (fun _ h=>h)).put (hkk 12 (by simp)) _)
   refine Xx P (by kernel_rfl) [23,24,25,12,11,0] [some (.int .i64 (k:Int)),some (.pointer (some ⟨bl,ol+k*2,none⟩)),some (.agg #[.int .i64 ((l.getD k Xw).low),.int .i64 ((l.getD k Xw).high)]),none,some (.int .i64 (k:Int)),none] (X7 6) [23,24,25,12,11] [0,1,2,3,4,5] [] (by kernel_rfl) (by rw [J];decide) ?_ (en rfl ?_ (en rfl ?_ (en rfl ?_ (en rfl ?_ (en rfl ?_ (en rfl ?_ .nil)))))) ?_
   ·exact fun _ h=>(fun h=>by cases h)
   ·exact Kn s21 rfl rfl rfl fun _ _ _ _=>P.q rfl
   ·intro R M I H _ _ D
    simp [go_sem,H.f.g rfl s19,H.f.g rfl s21,hkl,el]
    exact (D _ _ H.k rfl (P.q rfl H.x))
   ·intro R M I H _ _ D
    have hE:=fe.kp H.k (by simp)
    simp [go_sem,(gS M 24 (H.d 1 rfl rfl)),(hE.at_ Xw (i:=k) (by omega) 0 (p:=ol+k*2) (by omega) rfl),(hE.at_ Xw (i:=k) (by omega) 1 (p:=ol+k*2+1) (by omega) rfl)]
    exact (D _ _ H.k rfl (P.q rfl H.x))
   ·intro R M I H _ _ D
    have x0:=H.x
    simp [go_sem]
    exact D _ _ (H.k.alloc _) trivial (fun _=>by rw [show ZB R 3 5=false from H.t 5 rfl];exact Ye.new (s:=12) (H.f.lt (by rw [J];decide)) H.k.size [.int .i64 0,.int .i64 0])
   ·exact JC 0 rfl rfl rfl rfl fun _ _ _ _=>P.q rfl
   ·intro R M I H _ _ D
    have x0:=H.x
    obtain ⟨g,eg,hg,y,_⟩:=x0 (H.r 3 rfl)
    have V:=y H.n
    simp [go_sem,(gS M 25 (H.d 2 rfl rfl)),eg,V.cell,V.frz]
    exact D undef _ (H.k.store (.inl hg) [.int .i64 ((l.getD k Xw).low),.int .i64 ((l.getD k Xw).high)] 0) trivial (fun _=>Ye.set eg hg V (us:=[.int .i64 ((l.getD k Xw).low),.int .i64 ((l.getD k Xw).high)]) rfl rfl)
   intro L a22 w23 U B C K T;have x0:=T;replace J:=B.Z J;replace F:=B.E F;replace s4:=B.G s4;replace s6:=B.G s6;replace s7:=B.G s7;replace s9:=B.G s9;replace s10:=B.G s10;replace s19:=B.G s19;replace s20:=B.G s20;replace s21:=B.G s21;have s11:=gS a22 11 (K 4 _ rfl);replace b3:=b3.k0 C;replace b4:=b4.k0 C;replace b5:=b5.k0 C
   obtain ⟨g24,s12,lg24,-,b24⟩:=x0 (U 3 (by decide))
   obtain ⟨_,b24,rfl⟩:=b24 (U 5 (by decide))
   have ug24:=b24.lt
   have zw20:=S;have zw23:=C.size;replace S:=Nat.le_refl w23.heap.size;replace O:=C.below0 O;clear B C K U x0 P s22 fe;refine Xj (wp_seq ?_)
   have P:XI [13,29] (fun L aa I=>(L 2=true→(fun I v=>∃ m1,v=XH (ZG r (l.getD k Xw)) m1∧X0 I w23.heap.size (ZG r (l.getD k Xw)) m1) I (aa.tmps[29]?.getD undef))∧(L 9=true→Ye w23 aa I 13 72 [.int .i64 0,.int .i64 0,.int .i64 0,.int .i64 0] (L 10) (fun _ vs=>vs=[.int .i64 (((XO (ZG r (l.getD k Xw)) p s).getD Xd).low.n),.int .i64 (((XO (ZG r (l.getD k Xw)) p s).getD Xd).low.d),.int .i64 (((XO (ZG r (l.getD k Xw)) p s).getD Xd).high.n),.int .i64 (((XO (ZG r (l.getD k Xw)) p s).getD Xd).high.d)]))):=by
    intro L aa I w' kk vv hkk hb T
    obtain ⟨x0,x1⟩:=T
    exact ⟨(fun h=>by rw [Xb (hkk 29 (by simp))];obtain ⟨m1',e,f1'⟩:=x0 h;exact ⟨m1',e,f1'.below hb Xu⟩),(fun h=>((x1 h).bel hb (fun _ h=>h)).put (hkk 13 (by simp)) _)⟩
   refine Xx P (by kernel_rfl) [27,28,29,30,31,32,26,33,34,13,0,14] [some (XH r ra),some (.agg #[.int .i64 ((l.getD k Xw).low),.int .i64 ((l.getD k Xw).high)]),none,some (.agg #[.slice b.A p.length b.c]),some (Yz s),some (.tuple #[Yf ((XO (ZG r (l.getD k Xw)) p s).getD Xd),.bool ((XO (ZG r (l.getD k Xw)) p s).isSome)]),some (.tuple #[Yf ((XO (ZG r (l.getD k Xw)) p s).getD Xd),.bool ((XO (ZG r (l.getD k Xw)) p s).isSome)]),some (Yf ((XO (ZG r (l.getD k Xw)) p s).getD Xd)),some (.bool ((XO (ZG r (l.getD k Xw)) p s).isSome)),none,none,some (.bool ((XO (ZG r (l.getD k Xw)) p s).isSome))] ([[],[],[0,1],[],[],[0,1,2,3,4],[0,1,2,3,4,5],[0,1,2,3,4,5,6],[0,1,2,3,4,5,6],[],[0,1,2,3,4,5,6,7,9],[0,1,2,3,4,5,6,7,8,9,10]]) [27,28,29,30,31,32,26,33,34,13,14] [0,1,2,3,4,5,6,7,8,9,10,11] [] (by kernel_rfl) (by rw [J];decide) ?_ (en rfl ?_ (en rfl ?_ (en rfl ?_ (en rfl ?_ (en rfl ?_ (en rfl ?_ (en rfl ?_ (en rfl ?_ (en rfl ?_ (en rfl ?_ (en rfl ?_ (en rfl ?_ .nil)))))))))))) ?_
   ·exact fun _ h=>⟨(fun h=>by cases h),(fun h=>by cases h)⟩
   ·intro R M I H _ _ D
    simp [go_sem,H.f.g rfl s4,(b3.k0 H.k).cell]
    exact (D _ _ H.k rfl (P.q rfl H.x))
   ·intro R M I H _ _ D
    simp [go_sem,H.f.g rfl s12,(b24.k0 H.k).cell]
    exact (D _ _ H.k rfl (P.q rfl H.x))
   ·intro R M I H _ _ D
    obtain ⟨x0,x1⟩:=H.x
    simp [go_sem,(gS M 27 (H.d 0 rfl rfl)),(gS M 28 (H.d 1 rfl rfl))]
    have hBi:=H.k.below0 O
    refine (sInMode_c r ra (l.getD k Xw) I hn (hs.below hBi) hnl ((hs.below hBi).map.some_ (by rw [hm4];decide))).mono ?_
    rintro x wx ⟨m1,rfl,f0,hb⟩
    have f1:=f0.mono H.k.size
    exact (D _ _ (H.k.call hb) trivial ⟨(fun _=>by rw [Xc (H.f.lt (by rw [J];decide))];exact ⟨m1,rfl,f1⟩),(fun h=>((x1 h).bel hb (fun _ h=>h)).put (by decide) _)⟩)
   ·intro R M I H _ _ D
    simp [go_sem,H.f.g rfl s6,(b4.k0 H.k).cell]
    exact (D _ _ H.k rfl (P.q rfl H.x))
   ·intro R M I H _ _ D
    simp [go_sem,H.f.g rfl s7,(b5.k0 H.k).cell]
    exact (D _ _ H.k rfl (P.q rfl H.x))
   ·intro R M I H _ _ D
    obtain ⟨x0,x1⟩:=H.x
    obtain ⟨m1,ee2,f1⟩:=x0 (H.r 2 rfl)
    simp [go_sem,ee2,(gS M 30 (H.d 3 rfl rfl)),(gS M 31 (H.d 4 rfl rfl))]
    have hBi:=H.k.below0 O
    refine (sAdmAt_c (ZG r (l.getD k Xw)) p s m1 b I hn (inM_in hin (hlin _ (Jk hkl Xw))) f1.sl f1.nil hlp hpi (hsp.below hBi) hnb hsi).mono ?_
    rintro x wx ⟨rfl,hb⟩
    exact (D _ _ (H.k.call hb) (YQ _) (P.b rfl hb H.x))
   ·exact oMDX 5 rfl rfl rfl rfl fun _ _ _ _=>P.q rfl
   ·exact Jp 6 rfl rfl rfl rfl rfl fun _ _ _ _=>P.q rfl
   ·exact Jp 6 rfl rfl rfl rfl rfl fun _ _ _ _=>P.q rfl
   ·intro R M I H _ _ D
    obtain ⟨x0,x1⟩:=H.x
    simp [go_sem]
    exact D _ _ (H.k.alloc _) trivial ⟨(fun h=>by rw [Xb (by decide)];obtain ⟨m1',e,f1'⟩:=x0 h;exact ⟨m1',e,f1'.below (Xm bR _) Xu⟩),(fun _=>by rw [show ZB R 9 10=false from H.t 10 rfl];exact Ye.new (s:=13) (H.f.lt (by rw [J];decide)) H.k.size [.int .i64 0,.int .i64 0,.int .i64 0,.int .i64 0])⟩
   ·intro R M I H _ _ D
    obtain ⟨x0,x1⟩:=H.x
    obtain ⟨g,eg,hg,y,_⟩:=x1 (H.r 9 rfl)
    have V:=y H.n
    simp [go_sem,(gS M 33 (H.d 7 rfl rfl)),eg,V.cell,V.frz]
    exact D undef _ (H.k.store (.inl hg) [.int .i64 (((XO (ZG r (l.getD k Xw)) p s).getD Xd).low.n),.int .i64 (((XO (ZG r (l.getD k Xw)) p s).getD Xd).low.d),.int .i64 (((XO (ZG r (l.getD k Xw)) p s).getD Xd).high.n),.int .i64 (((XO (ZG r (l.getD k Xw)) p s).getD Xd).high.d)] 0) trivial ⟨(fun h=>by obtain ⟨m1',e,f1'⟩:=x0 h;exact ⟨m1',e,f1'.otherT V (by decide) (by decide) [.int .i64 (((XO (ZG r (l.getD k Xw)) p s).getD Xd).low.n),.int .i64 (((XO (ZG r (l.getD k Xw)) p s).getD Xd).low.d),.int .i64 (((XO (ZG r (l.getD k Xw)) p s).getD Xd).high.n),.int .i64 (((XO (ZG r (l.getD k Xw)) p s).getD Xd).high.d)] 0⟩),(fun _=>Ye.set eg hg V (us:=[.int .i64 (((XO (ZG r (l.getD k Xw)) p s).getD Xd).low.n),.int .i64 (((XO (ZG r (l.getD k Xw)) p s).getD Xd).low.d),.int .i64 (((XO (ZG r (l.getD k Xw)) p s).getD Xd).high.n),.int .i64 (((XO (ZG r (l.getD k Xw)) p s).getD Xd).high.d)]) rfl rfl)⟩
   ·exact JC 8 rfl rfl rfl rfl fun _ _ _ _=>P.q rfl
   intro L a25 w26 U B C K T
   obtain ⟨x0,x1⟩:=T
   replace J:=B.Z J;replace F:=B.E F;replace s4:=B.G s4;replace s6:=B.G s6;replace s7:=B.G s7;replace s9:=B.G s9;replace s10:=B.G s10;replace s19:=B.G s19;replace s20:=B.G s20;replace s21:=B.G s21;replace s11:=B.G s11;have s14:=gS a25 14 (K 11 _ rfl);replace b3:=b3.k0 C;replace b4:=b4.k0 C;replace b5:=b5.k0 C
   obtain ⟨g27,s13,lg27,-,b27⟩:=x1 (U 9 (by decide))
   obtain ⟨_,b27,rfl⟩:=b27 (U 10 (by decide))
   have ug27:=b27.lt
   have zw26:=C.size;replace S:=Nat.le_refl w26.heap.size;replace O:=C.below0 O;clear B C K U x0 x1 P s12 b24;refine Xj (wp_seq (wp_seq ?_))
   refine Xe (by kernel_rfl) [35,36] [some (.bool ((XO (ZG r (l.getD k Xw)) p s).isSome)),some (.bool (!((XO (ZG r (l.getD k Xw)) p s).isSome)))] (X7 2) [35,36] [0,1] [] (fun _ _ _=>True) (by kernel_rfl) (by rw [J];decide) ?_ (en rfl ?_ (en rfl ?_ .nil)) ?_
   ·exact fun _ _=>trivial
   ·exact YA s14 rfl rfl rfl
   ·exact Jn 0 rfl rfl rfl rfl
   intro L a28 w29 U B C K T;replace J:=B.Z J;replace F:=B.E F;replace s4:=B.G s4;replace s6:=B.G s6;replace s7:=B.G s7;replace s9:=B.G s9;replace s10:=B.G s10;replace s19:=B.G s19;replace s20:=B.G s20;replace s21:=B.G s21;replace s11:=B.G s11;replace s13:=B.G s13;have s36:=gS a28 36 (K 1 _ rfl);replace b3:=b3.k0 C;replace b4:=b4.k0 C;replace b5:=b5.k0 C;replace b27:=b27.k0 C;replace S:=Nat.le_trans S C.size;replace O:=C.below0 O;clear B C K U T s14;refine Xj ?_
   rcases Bool.eq_false_or_eq_true (!((XO (ZG r (l.getD k Xw)) p s).isSome)) with q30|q30
   ·refine wp_cond_true (ev (vb s36 q30)) ?_
    refine wp_seq ?_
    refine Xe (by kernel_rfl) [37,8] [some (.int .i64 (k:Int)),some (.int .i64 (k:Int))] (X7 2) [37,8] [0,1] [] (fun _ _ _=>True) (by kernel_rfl) (by rw [J];decide) ?_ (en rfl ?_ (en rfl ?_ .nil)) ?_
    ·exact fun _ _=>trivial
    ·exact YA s11 rfl rfl rfl
    ·exact Ke 0 rfl rfl rfl rfl
    intro L a31 w32 U B C K T;replace J:=B.Z J;replace F:=B.E F;have s8:=gS a31 8 (K 1 _ rfl);replace S:=Nat.le_trans S C.size;replace O:=C.below0 O;clear B C K U T s4 s6 s7 s9 s10 s19 s20 s21 s11 s13 s36 b3 b4 b5 b27;refine Xj (wp_ret ?_);refine YY (JD (YY (YY (JD (YY ?_)))))
    refine bodyPost_ret (v:=.int .i64 (k:Int)) (by simp [results,Tryz.results32,go_sem,s8]) F ?_
    exact ⟨by rw [wk_stop (p:=p) (s:=s) hm hkl hall (not_t q30)],O⟩
   ·have hwin:((XO (ZG r (l.getD k Xw)) p s).getD Xd).In:=optIn (fun _ hv=>admAt_ok hv)
    refine wp_cond_false (ev (vb s36 q30)) ?_
    refine wp_skip (Xj (wp_seq ?_))
    refine Xe (by kernel_rfl) [38,39,40,41,42,43,44,45] [some (.int .i64 ((wkS r l p s k).1)),some (.bool (decide ((wkS r l p s k).1<0))),some (.bool (decide ((wkS r l p s k).1<0))),some ((bif decide ((wkS r l p s k).1<0) then undef else (Yf ((XO (ZG r (l.getD k Xw)) p s).getD Xd):Value))),some ((bif decide ((wkS r l p s k).1<0) then undef else (.int .i64 (wkN r l p s k):Value))),some ((bif decide ((wkS r l p s k).1<0) then undef else (.int .i64 ((wkS r l p s k).2):Value))),some ((bif decide ((wkS r l p s k).1<0) then undef else (.bool (decide (wkN r l p s k<(wkS r l p s k).2)):Value))),some (.bool (decide ((wkS r l p s k).1<0)||decide (wkN r l p s k<(wkS r l p s k).2)))] (X7 8) [38,39,40,41,42,43,44,45] [0,1,2,3,4,5,6,7] [] (fun _ _ _=>True) (by kernel_rfl) (by rw [J];decide) ?_ (en rfl ?_ (en rfl ?_ (en rfl ?_ (eg ?_ (eg ?_ (eg ?_ (eg ?_ (en rfl ?_ .nil)))))))) ?_
    ·exact fun _ _=>trivial
    ·exact YA s9 rfl rfl rfl
    ·exact fun R M I H _ _ D=>Yc rfl (ev (H.d 0 rfl rfl)) rfl rfl rfl (D _ _ H.k rfl trivial)
    ·exact Jj 1 rfl rfl rfl rfl
    ·intro R M I H _ _ D
     refine KZ rfl rfl rfl (H.d 2 rfl rfl) (fun qg=>D _ _ H.k (XM qg).symm trivial) fun qg=>?_
     simp [go_sem,H.f.g rfl s13,(b27.k0 H.k).cell]
     exact (D _ _ H.k (XA qg).symm trivial)
    ·intro R M I H _ _ D
     refine KZ rfl rfl rfl (H.d 2 rfl rfl) (fun qg=>D _ _ H.k (XM qg).symm trivial) fun qg=>?_
     simp [go_sem,(show M.tmps[41]?.getD undef=_ from (H.d 3 rfl rfl).trans (XA qg))]
     refine (sWho_c ((XO (ZG r (l.getD k Xw)) p s).getD Xd) I hwin).mono ?_
     rintro x wx ⟨rfl,hb⟩
     exact (D _ _ (H.k.call hb) (XA qg).symm trivial)
    ·intro R M I H _ _ D
     refine KZ rfl rfl rfl (H.d 2 rfl rfl) (fun qg=>D _ _ H.k (XM qg).symm trivial) fun qg=>?_
     exact XF rfl (ev (H.f.g rfl s10)) (D _ _ H.k (XA qg).symm trivial)
    ·intro R M I H _ _ D
     refine KZ rfl rfl rfl (H.d 2 rfl rfl) (fun qg=>D _ _ H.k (XM qg).symm trivial) fun qg=>?_
     exact Yc rfl (ev ((H.d 4 rfl rfl).trans (XA qg))) (ev ((H.d 5 rfl rfl).trans (XA qg))) rfl rfl (D _ _ H.k (XA qg).symm trivial)
    ·exact oPOT 2 6 rfl rfl rfl rfl rfl rfl
    intro L a33 w34 U B C K T;replace J:=B.Z J;replace F:=B.E F;replace s4:=B.G s4;replace s6:=B.G s6;replace s7:=B.G s7;replace s9:=B.G s9;replace s10:=B.G s10;replace s19:=B.G s19;replace s20:=B.G s20;replace s21:=B.G s21;replace s11:=B.G s11;replace s13:=B.G s13;have s45:=gS a33 45 (K 7 _ rfl);replace b3:=b3.k0 C;replace b4:=b4.k0 C;replace b5:=b5.k0 C;replace b27:=b27.k0 C;replace S:=Nat.le_trans S C.size;replace O:=C.below0 O;clear B C K U T s36;refine Xj ?_
    rcases Bool.eq_false_or_eq_true (decide ((wkS r l p s k).1<0)||decide (wkN r l p s k<(wkS r l p s k).2)) with q35|q35
    ·refine wp_cond_true (ev (vb s45 q35)) ?_
     refine wp_seq ?_
     refine Xe (by kernel_rfl) [46,9] [some (.int .i64 (k:Int)),some (.int .i64 (k:Int))] (X7 2) [46,9] [0,1] [] (fun _ _ _=>True) (by kernel_rfl) (by rw [J];decide) ?_ (en rfl ?_ (en rfl ?_ .nil)) ?_
     ·exact fun _ _=>trivial
     ·exact YA s11 rfl rfl rfl
     ·exact Ke 0 rfl rfl rfl rfl
     intro L a36 w37 U B C K T;replace J:=B.Z J;replace F:=B.E F;replace s4:=B.G s4;replace s6:=B.G s6;replace s7:=B.G s7;replace s19:=B.G s19;replace s20:=B.G s20;replace s21:=B.G s21;replace s13:=B.G s13;have s9:=gS a36 9 (K 1 _ rfl);replace b3:=b3.k0 C;replace b4:=b4.k0 C;replace b5:=b5.k0 C;replace b27:=b27.k0 C;replace S:=Nat.le_trans S C.size;replace O:=C.below0 O;clear B C K U T s10 s11 s45;refine Xj ?_
     refine Xe (by kernel_rfl) [47,48,10] [some (Yf ((XO (ZG r (l.getD k Xw)) p s).getD Xd)),some (.int .i64 (wkN r l p s k)),some (.int .i64 (wkN r l p s k))] (X7 3) [47,48,10] [0,1,2] [] (fun _ _ _=>True) (by kernel_rfl) (by rw [J];decide) ?_ (en rfl ?_ (en rfl ?_ (en rfl ?_ .nil))) ?_
     ·exact fun _ _=>trivial
     ·intro R M I H _ _ D
      simp [go_sem,H.f.g rfl s13,(b27.k0 H.k).cell]
      exact (D _ _ H.k rfl trivial)
     ·intro R M I H _ _ D
      simp [go_sem,(gS M 47 (H.d 0 rfl rfl))]
      refine (sWho_c ((XO (ZG r (l.getD k Xw)) p s).getD Xd) I hwin).mono ?_
      rintro x wx ⟨rfl,hb⟩
      exact (D _ _ (H.k.call hb) rfl trivial)
     ·exact Ke 1 rfl rfl rfl rfl
     intro L a38 w39 U B C K T;replace J:=B.Z J;replace F:=B.E F;replace s4:=B.G s4;replace s6:=B.G s6;replace s7:=B.G s7;replace s19:=B.G s19;replace s20:=B.G s20;replace s21:=B.G s21;replace s9:=B.G s9;have s10:=gS a38 10 (K 2 _ rfl);replace b3:=b3.k0 C;replace b4:=b4.k0 C;replace b5:=b5.k0 C;replace S:=Nat.le_trans S C.size;replace O:=C.below0 O;clear B C K U T s13 b27;refine J0 (Xj ?_)
     refine Xe (by kernel_rfl) [49,21] [some (.int .i64 ((k:Int)+1)),some (.int .i64 ((k:Int)+1))] (X7 2) [49,21] [0,1] [] (fun L aa I=>(L 1=false→aa.tmps[21]?.getD undef=.int .i64 (k:Int))) (by kernel_rfl) (by rw [J];decide) ?_ (en rfl ?_ (en rfl ?_ .nil)) ?_
     ·exact fun _ h=>(fun _=>s21)
     ·intro R M I H _ _ D
      have x0:=H.x
      exact ZY rfl (ev (x0 (H.t 1 rfl))) rfl (by omega) (D _ _ H.k rfl (fun h=>(Xb (by decide) _).trans (x0 h)))
     ·intro R M I H _ _ D
      have x0:=H.x
      exact XF rfl (ev (H.d 0 rfl rfl)) (D _ _ H.k rfl (fun h=>by simp [ZB] at h))
     intro L a40 w41 U B C K T;have x0:=T;replace J:=B.Z J;replace F:=B.E F;replace s4:=B.G s4;replace s6:=B.G s6;replace s7:=B.G s7;replace s19:=B.G s19;replace s20:=B.G s20;replace s9:=B.G s9;replace s10:=B.G s10;have s21:=gS a40 21 (K 1 _ rfl);replace b3:=b3.k0 C;replace b4:=b4.k0 C;replace b5:=b5.k0 C;replace S:=Nat.le_trans S C.size;replace O:=C.below0 O;clear B C K U x0;refine Xj ?_
     refine ⟨?_, ?_⟩
     ·exact ⟨J,F,(k+1),(by omega),(wkAll_next hall (Zv q30)),s4,s6,s7,(by rw [wkS_upd (r:=r) (l:=l) (p:=p) (s:=s) (k:=k) (or_dec q35)];exact s9),(by rw [wkS_upd (r:=r) (l:=l) (p:=p) (s:=s) (k:=k) (or_dec q35)];exact s10),s19,s20,s21,b3,b4,b5,O,(by omega)⟩
     ·show (l.length-(intOf (a40.tmps[21]?.getD undef)).toNat)<_
      rw [s21,hmu];simp only [intOf];omega
    ·refine wp_cond_false (ev (vb s45 q35)) ?_
     refine wp_skip ?_;refine J0 (Xj ?_)
     refine Xe (by kernel_rfl) [49,21] [some (.int .i64 ((k:Int)+1)),some (.int .i64 ((k:Int)+1))] (X7 2) [49,21] [0,1] [] (fun L aa I=>(L 1=false→aa.tmps[21]?.getD undef=.int .i64 (k:Int))) (by kernel_rfl) (by rw [J];decide) ?_ (en rfl ?_ (en rfl ?_ .nil)) ?_
     ·exact fun _ h=>(fun _=>s21)
     ·intro R M I H _ _ D
      have x0:=H.x
      exact ZY rfl (ev (x0 (H.t 1 rfl))) rfl (by omega) (D _ _ H.k rfl (fun h=>(Xb (by decide) _).trans (x0 h)))
     ·intro R M I H _ _ D
      have x0:=H.x
      exact XF rfl (ev (H.d 0 rfl rfl)) (D _ _ H.k rfl (fun h=>by simp [ZB] at h))
     intro L a42 w43 U B C K T;have x0:=T;replace J:=B.Z J;replace F:=B.E F;replace s4:=B.G s4;replace s6:=B.G s6;replace s7:=B.G s7;replace s9:=B.G s9;replace s10:=B.G s10;replace s19:=B.G s19;replace s20:=B.G s20;have s21:=gS a42 21 (K 1 _ rfl);replace b3:=b3.k0 C;replace b4:=b4.k0 C;replace b5:=b5.k0 C;replace S:=Nat.le_trans S C.size;replace O:=C.below0 O;clear B C K U x0 s11 s13 s45 b27;refine Xj ?_
     refine ⟨?_, ?_⟩
     ·exact ⟨J,F,(k+1),(by omega),(wkAll_next hall (Zv q30)),s4,s6,s7,(by rw [wkS_keep (r:=r) (l:=l) (p:=p) (s:=s) (k:=k) (Xg (KB q35)) (Xg (JZ q35))];exact s9),(by rw [wkS_keep (r:=r) (l:=l) (p:=p) (s:=s) (k:=k) (Xg (KB q35)) (Xg (JZ q35))];exact s10),s19,s20,s21,b3,b4,b5,O,(by omega)⟩
     ·show (l.length-(intOf (a42.tmps[21]?.getD undef)).toNat)<_
      rw [s21,hmu];simp only [intOf];omega
  ·have ek:k=l.length:=by have:=Xg q21;omega
   refine wp_cond_false (ev (vb s22 q21)) ?_
   refine wp_exit ?_
   refine J7 (J7 (ib_x (Xj (wp_seq ?_))))
   refine Xe (by kernel_rfl) [50,8] [some (.int .i64 ((wkS r l p s k).1)),some (.int .i64 ((wkS r l p s k).1))] (X7 2) [50,8] [0,1] [] (fun _ _ _=>True) (by kernel_rfl) (by rw [J];decide) ?_ (en rfl ?_ (en rfl ?_ .nil)) ?_
   ·exact fun _ _=>trivial
   ·exact YA s9 rfl rfl rfl
   ·exact Ke 0 rfl rfl rfl rfl
   intro L a44 w45 U B C K T;replace J:=B.Z J;replace F:=B.E F;have s8:=gS a44 8 (K 1 _ rfl);replace S:=Nat.le_trans S C.size;replace O:=C.below0 O;clear B C K U T s4 s6 s7 s9 s10 s19 s20 s21 s22 b3 b4 b5;refine Xj (wp_ret ?_)
   refine bodyPost_ret (v:=.int .i64 ((wkS r l p s k).1)) (by simp [results,Tryz.results32,go_sem,s8]) F ?_
   rw [ek] at hall
   exact ⟨by rw [wk_end hm hall,ek],O⟩
end Go.Proofs.YtkjimfapbjdafaaGreat
