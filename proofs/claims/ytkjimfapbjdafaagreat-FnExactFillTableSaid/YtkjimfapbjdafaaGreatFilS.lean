/-
 The cells of a table: the span of a cell, the check and the filling of a table: of the program and of the reference.
 Conditions: the slices hold at most 2^20 elements.
-/
import Derived.Deep.QuietTactic
import Derived.BigQuiet
import Derived.Test.YtkjimfapbjdafaaGreatCellS
set_option maxHeartbeats 3000000
set_option maxRecDepth 100000
namespace Go.Proofs.YtkjimfapbjdafaaGreat
open Go.RowKit
theorem spanC_spanOk {r:X3} {p e:List Half} {t:Tab} {i j:Int} {v:ZP} (h:YK r p e t i j=some v):Yg v=true:=by
 rw [spanC_eq] at h;split at h
 ·exact accS_ok (λ _ _ q=>admit_spanOk q) h
 ·cases h
theorem k_bd {k:Nat} {n:Int} (h:1<=n):(0<=(k:Int).tmod n/\(k:Int).tmod n<=(k:Int))/\(0<=(k:Int).tdiv n/\(k:Int).tdiv n<=(k:Int)):=by
 rw [(mod_div h).1,(mod_div h).2];have h1:=Nat.mod_le k n.toNat;have h2:=Nat.div_le_self k n.toNat;generalize k % n.toNat=a at *;generalize k / n.toNat=b at *;omega
theorem cell_ij {t:Tab} {i j:Nat} (hi:(i:Int)<t.nx) (hj:(j:Int)<t.ny):cellB t (i:Int) (j:Int)=true:=by
 unfold cellB;simp only [Bool.and_eq_true,decide_eq_true_eq];omega
theorem row_next {j n:Nat}:j*n+n=(j+1)*n:=by rw [Nat.succ_mul]
theorem nat_eq {i:Nat} {n:Int} (h:decide ((i:Int)<n)=false) (h2:(i:Int)<=n):i=n.toNat:=by
 have:=Xo h;omega
theorem iNear_c (u:ZP) (wish:Int) (w:World) (hu:u.In) :
 Calls Tryz.prog 131 #[Y9 u,.int .i64 wish] w λ x w'=>x=.returned (.int .i64 (Ki u wish))/\Below w.heap.size w w':=by
 refine YF Tryz.func131 rfl (n:=21) Tryz.ntmps131 (by simp) ?_;intro a0 F B ha;have s0:a0.tmps[0]?.getD undef=Y9 u:=ha 0 _ rfl;have s1:a0.tmps[1]?.getD undef=.int .i64 wish:=ha 1 _ rfl;clear ha;have K:=Below.refl w.heap.size w;have M:=Nat.le_refl w.heap.size;refine wp_seq ?_;refine Ys [2,4] [.pointer (some ⟨w.heap.size,0,none⟩),.int .i64 0] [some (.cells [.int .i64 u.low.n,.int .i64 u.low.d,.int .i64 u.high.n,.int .i64 u.high.d].toArray 72),none] [0,1] [2,4] [0,1] (by kernel_rfl) (by rw [F];decide) (ec ?_ (ec ?_ .nil)) ?_
 ·intro a w' A hs N Q C;simp [go_sem,A.g rfl s0];rw [hs];exact C
 ·intro a w' A hs N Q C;simp [go_sem];exact C
 intro a1 w2 A I hb hO;replace F:=A.size.trans F;replace B:=A.defers.trans B;replace s1:=A.g rfl s1;have s2:a1.tmps[2]?.getD undef=.pointer (some ⟨w.heap.size,0,none⟩):=I 0 (by decide);have b3:Xy w2 w.heap.size 72 [.int .i64 u.low.n,.int .i64 u.low.d,.int .i64 u.high.n,.int .i64 u.high.d]:=hO 0 _ rfl;have hG:=b3.lt;replace K:=Xn K hb;have zw2:=Nat.le_trans M hb.size;replace M:=Nat.le_refl w2.heap.size;clear A I hb hO s0;refine Xg (wp_seq ?_);refine Xe (by kernel_rfl) [7,8,9,10,11,12,5,6] [some (.pointer (some ⟨w.heap.size,0,none⟩)),some (.agg #[.int .i64 u.low.n,.int .i64 u.low.d]),some (.int .i64 (Ym u.low)),some (.pointer (some ⟨w.heap.size,2,none⟩)),some (.agg #[.int .i64 u.high.n,.int .i64 u.high.d]),some (.int .i64 (Yd u.high)),some (.int .i64 (Ym u.low)),some (.int .i64 (Yd u.high))] ([[],[0],[0,1],[],[3],[0,1,2,3,4],[0,1,2,3,4,5],[0,1,2,3,4,5,6]]) [7,8,9,10,11,12,5,6] [0,1,2,3,4,5,6,7] [] (λ _ _ _=>True) (by kernel_rfl) (by rw [F];decide) ?_ (en rfl ?_ (en rfl ?_ (en rfl ?_ (en rfl ?_ (en rfl ?_ (en rfl ?_ (en rfl ?_ (en rfl ?_ .nil)))))))) ?_
 ·exact λ _ _=>trivial
 ·intro S J O H _ _ C;simp [go_sem,H.f.g rfl s2];exact (C _ _ H.k rfl trivial)
 ·intro S J O H _ _ C;simp [go_sem,(gS J 7 (H.d 0 rfl rfl)),(b3.k0 H.k).cell];exact (C _ _ H.k rfl trivial)
 ·intro S J O H _ _ C;simp [go_sem,(gS J 8 (H.d 1 rfl rfl))];refine (iRatCeil_c u.low O hu.1).mono ?_;rintro x wx ⟨rfl,hb⟩;exact (C _ _ (H.k.call hb) rfl trivial)
 ·intro S J O H _ _ C;simp [go_sem,H.f.g rfl s2];exact (C _ _ H.k rfl trivial)
 ·intro S J O H _ _ C;simp [go_sem,(gS J 10 (H.d 3 rfl rfl)),(b3.k0 H.k).cell];exact (C _ _ H.k rfl trivial)
 ·intro S J O H _ _ C;simp [go_sem,(gS J 11 (H.d 4 rfl rfl))];refine (iRatFloor_c u.high O hu.2).mono ?_;rintro x wx ⟨rfl,hb⟩;exact (C _ _ (H.k.call hb) rfl trivial)
 ·exact Kb 2 rfl rfl rfl rfl
 ·exact Kb 5 rfl rfl rfl rfl
 intro L a4 w5 P A D I R;replace F:=A.Z F;replace B:=A.E B;replace s1:=A.G s1;have s5:=gS a4 5 (I 6 _ rfl);have s6:=gS a4 6 (I 7 _ rfl);replace M:=Nat.le_trans M D.size;replace K:=D.below0 K;clear A D I P R s2 b3;refine Xg (wp_seq (wp_seq ?_));refine Xe (by kernel_rfl) [13,14,15] [some (.int .i64 (Ym u.low)),some (.int .i64 (Yd u.high)),some (.bool (decide (Ym u.low > Yd u.high)))] (XR 3) [13,14,15] [0,1,2] [] (λ _ _ _=>True) (by kernel_rfl) (by rw [F];decide) ?_ (en rfl ?_ (en rfl ?_ (en rfl ?_ .nil))) ?_
 ·exact λ _ _=>trivial
 ·exact YJ s5 rfl rfl rfl
 ·exact YJ s6 rfl rfl rfl
 ·exact λ S J O H _ _ C=>Ye rfl (ev (H.d 0 rfl rfl)) (ev (H.d 1 rfl rfl)) rfl rfl (C _ _ H.k rfl trivial)
 intro L a6 w7 P A D I R;replace F:=A.Z F;replace B:=A.E B;replace s1:=A.G s1;replace s5:=A.G s5;replace s6:=A.G s6;have s15:=gS a6 15 (I 2 _ rfl);replace M:=Nat.le_trans M D.size;replace K:=D.below0 K;clear A D I P R;refine Xg ?_;rcases Bool.eq_false_or_eq_true (decide (Ym u.low > Yd u.high)) with q8|q8
 ·refine wp_cond_true (ev (vb s15 q8)) ?_;refine wp_seq ?_;refine Xe (by kernel_rfl) [4] [some (.int .i64 (-1000000))] (XR 1) [4] [0] [] (λ _ _ _=>True) (by kernel_rfl) (by rw [F];decide) ?_ (en rfl ?_ .nil) ?_
  ·exact λ _ _=>trivial
  ·exact Kh rfl rfl
  intro L a9 w10 P A D I R;replace F:=A.Z F;replace B:=A.E B;have s4:=gS a9 4 (I 0 _ rfl);replace M:=Nat.le_trans M D.size;replace K:=D.below0 K;clear A D I P R s1 s5 s6 s15;refine Xg (wp_ret (Yz ?_));refine bodyPost_ret (v:=.int .i64 (-1000000)) (by simp [results,Tryz.results131,go_sem,s4]) B ?_;exact ⟨by unfold Ki;rw [if_pos (of_decide_eq_true q8)],K⟩
 ·refine wp_cond_false (ev (vb s15 q8)) ?_;refine wp_skip (Xg (wp_seq ?_));refine Xe (by kernel_rfl) [16,17,18,19,20,4] [some (.int .i64 (Ym u.low)),some (.int .i64 (Yd u.high)),some (.int .i64 wish),some (.int .i64 (min (Yd u.high) wish)),some (.int .i64 (max (Ym u.low) (min (Yd u.high) wish))),some (.int .i64 (max (Ym u.low) (min (Yd u.high) wish)))] (XR 6) [16,17,18,19,20,4] [0,1,2,3,4,5] [] (λ _ _ _=>True) (by kernel_rfl) (by rw [F];decide) ?_ (en rfl ?_ (en rfl ?_ (en rfl ?_ (en rfl ?_ (en rfl ?_ (en rfl ?_ .nil)))))) ?_
  ·exact λ _ _=>trivial
  ·exact YJ s5 rfl rfl rfl
  ·exact YJ s6 rfl rfl rfl
  ·exact YJ s1 rfl rfl rfl
  ·intro S J O H _ _ C;simp [go_sem,(gS J 17 (H.d 1 rfl rfl)),(gS J 18 (H.d 2 rfl rfl))];exact (C _ _ H.k rfl trivial)
  ·intro S J O H _ _ C;simp [go_sem,(gS J 16 (H.d 0 rfl rfl)),(gS J 19 (H.d 3 rfl rfl))];exact (C _ _ H.k rfl trivial)
  ·exact Kb 4 rfl rfl rfl rfl
  intro L a11 w12 P A D I R;replace F:=A.Z F;replace B:=A.E B;have s4:=gS a11 4 (I 5 _ rfl);replace M:=Nat.le_trans M D.size;replace K:=D.below0 K;clear A D I P R s1 s5 s6 s15;refine Xg (wp_ret ?_);refine bodyPost_ret (v:=.int .i64 (max (Ym u.low) (min (Yd u.high) wish))) (by simp [results,Tryz.results131,go_sem,s4]) B ?_;exact ⟨by unfold Ki;rw [if_neg (of_decide_eq_false q8)],K⟩
theorem sNear_c (u:ZP) (wish:Int) (w:World) (hu:u.In) :
 Calls Tryz.prog 128 #[Y9 u,.int .i64 wish] w λ x w'=>x=.returned (.int .i64 (Ki u wish))/\Below w.heap.size w w':=by
 refine YF Tryz.func128 rfl (n:=20) Tryz.ntmps128 (by simp) ?_;intro a0 F B ha;have s0:a0.tmps[0]?.getD undef=Y9 u:=ha 0 _ rfl;have s1:a0.tmps[1]?.getD undef=.int .i64 wish:=ha 1 _ rfl;clear ha;have K:=Below.refl w.heap.size w;have M:=Nat.le_refl w.heap.size;refine wp_seq ?_;refine Ys [2,4] [.pointer (some ⟨w.heap.size,0,none⟩),.int .i64 0] [some (.cells [.int .i64 u.low.n,.int .i64 u.low.d,.int .i64 u.high.n,.int .i64 u.high.d].toArray 72),none] [0,1] [2,4] [0,1] (by kernel_rfl) (by rw [F];decide) (ec ?_ (ec ?_ .nil)) ?_
 ·intro a w' A hs N Q C;simp [go_sem,A.g rfl s0];rw [hs];exact C
 ·intro a w' A hs N Q C;simp [go_sem];exact C
 intro a1 w2 A I hb hO;replace F:=A.size.trans F;replace B:=A.defers.trans B;replace s1:=A.g rfl s1;have s2:a1.tmps[2]?.getD undef=.pointer (some ⟨w.heap.size,0,none⟩):=I 0 (by decide);have b3:Xy w2 w.heap.size 72 [.int .i64 u.low.n,.int .i64 u.low.d,.int .i64 u.high.n,.int .i64 u.high.d]:=hO 0 _ rfl;have hG:=b3.lt;replace K:=Xn K hb;have zw2:=Nat.le_trans M hb.size;replace M:=Nat.le_refl w2.heap.size;clear A I hb hO s0;refine Xg (wp_seq ?_);refine Xe (by kernel_rfl) [7,8,9,5] [some (.pointer (some ⟨w.heap.size,0,none⟩)),some (.agg #[.int .i64 u.low.n,.int .i64 u.low.d]),some (.int .i64 (Ym u.low)),some (.int .i64 (Ym u.low))] (XR 4) [7,8,9,5] [0,1,2,3] [] (λ _ _ _=>True) (by kernel_rfl) (by rw [F];decide) ?_ (en rfl ?_ (en rfl ?_ (en rfl ?_ (en rfl ?_ .nil)))) ?_
 ·exact λ _ _=>trivial
 ·intro S J O H _ _ C;simp [go_sem,H.f.g rfl s2];exact (C _ _ H.k rfl trivial)
 ·intro S J O H _ _ C;simp [go_sem,(gS J 7 (H.d 0 rfl rfl)),(b3.k0 H.k).cell];exact (C _ _ H.k rfl trivial)
 ·intro S J O H _ _ C;simp [go_sem,(gS J 8 (H.d 1 rfl rfl))];refine (sRatCeil_c u.low O hu.1).mono ?_;rintro x wx ⟨rfl,hb⟩;exact (C _ _ (H.k.call hb) rfl trivial)
 ·exact Kb 2 rfl rfl rfl rfl
 intro L a4 w5 P A D I R;replace F:=A.Z F;replace B:=A.E B;replace s1:=A.G s1;replace s2:=A.G s2;have s5:=gS a4 5 (I 3 _ rfl);replace b3:=b3.k0 D;replace M:=Nat.le_trans M D.size;replace K:=D.below0 K;clear A D I P R;refine Xg (wp_seq ?_);refine Xe (by kernel_rfl) [10,11,12,6] [some (.pointer (some ⟨w.heap.size,2,none⟩)),some (.agg #[.int .i64 u.high.n,.int .i64 u.high.d]),some (.int .i64 (Yd u.high)),some (.int .i64 (Yd u.high))] (XR 4) [10,11,12,6] [0,1,2,3] [] (λ _ _ _=>True) (by kernel_rfl) (by rw [F];decide) ?_ (en rfl ?_ (en rfl ?_ (en rfl ?_ (en rfl ?_ .nil)))) ?_
 ·exact λ _ _=>trivial
 ·intro S J O H _ _ C;simp [go_sem,H.f.g rfl s2];exact (C _ _ H.k rfl trivial)
 ·intro S J O H _ _ C;simp [go_sem,(gS J 10 (H.d 0 rfl rfl)),(b3.k0 H.k).cell];exact (C _ _ H.k rfl trivial)
 ·intro S J O H _ _ C;simp [go_sem,(gS J 11 (H.d 1 rfl rfl))];refine (sRatFloor_c u.high O hu.2).mono ?_;rintro x wx ⟨rfl,hb⟩;exact (C _ _ (H.k.call hb) rfl trivial)
 ·exact Kb 2 rfl rfl rfl rfl
 intro L a6 w7 P A D I R;replace F:=A.Z F;replace B:=A.E B;replace s1:=A.G s1;replace s5:=A.G s5;have s6:=gS a6 6 (I 3 _ rfl);replace M:=Nat.le_trans M D.size;replace K:=D.below0 K;clear A D I P R s2 b3;refine Xg (wp_seq (wp_seq ?_));refine Xe (by kernel_rfl) [13,14,15] [some (.int .i64 (Ym u.low)),some (.int .i64 (Yd u.high)),some (.bool (decide (Ym u.low > Yd u.high)))] (XR 3) [13,14,15] [0,1,2] [] (λ _ _ _=>True) (by kernel_rfl) (by rw [F];decide) ?_ (en rfl ?_ (en rfl ?_ (en rfl ?_ .nil))) ?_
 ·exact λ _ _=>trivial
 ·exact YJ s5 rfl rfl rfl
 ·exact YJ s6 rfl rfl rfl
 ·exact λ S J O H _ _ C=>Ye rfl (ev (H.d 0 rfl rfl)) (ev (H.d 1 rfl rfl)) rfl rfl (C _ _ H.k rfl trivial)
 intro L a8 w9 P A D I R;replace F:=A.Z F;replace B:=A.E B;replace s1:=A.G s1;replace s5:=A.G s5;replace s6:=A.G s6;have s15:=gS a8 15 (I 2 _ rfl);replace M:=Nat.le_trans M D.size;replace K:=D.below0 K;clear A D I P R;refine Xg ?_;rcases Bool.eq_false_or_eq_true (decide (Ym u.low > Yd u.high)) with q10|q10
 ·refine wp_cond_true (ev (vb s15 q10)) ?_;refine wp_seq ?_;refine Xe (by kernel_rfl) [4] [some (.int .i64 (-1000000))] (XR 1) [4] [0] [] (λ _ _ _=>True) (by kernel_rfl) (by rw [F];decide) ?_ (en rfl ?_ .nil) ?_
  ·exact λ _ _=>trivial
  ·exact Kh rfl rfl
  intro L a11 w12 P A D I R;replace F:=A.Z F;replace B:=A.E B;have s4:=gS a11 4 (I 0 _ rfl);replace M:=Nat.le_trans M D.size;replace K:=D.below0 K;clear A D I P R s1 s5 s6 s15;refine Xg (wp_ret (Yz ?_));refine bodyPost_ret (v:=.int .i64 (-1000000)) (by simp [results,Tryz.results128,go_sem,s4]) B ?_;exact ⟨by unfold Ki;rw [if_pos (of_decide_eq_true q10)],K⟩
 ·refine wp_cond_false (ev (vb s15 q10)) ?_;refine wp_skip (Xg (wp_seq ?_));refine Xe (by kernel_rfl) [16,17,18,19,4] [some (.int .i64 wish),some (.int .i64 (Ym u.low)),some (.int .i64 (Yd u.high)),some (.int .i64 (max (Ym u.low) (min wish (Yd u.high)))),some (.int .i64 (max (Ym u.low) (min wish (Yd u.high))))] (XR 5) [16,17,18,19,4] [0,1,2,3,4] [] (λ _ _ _=>True) (by kernel_rfl) (by rw [F];decide) ?_ (en rfl ?_ (en rfl ?_ (en rfl ?_ (en rfl ?_ (en rfl ?_ .nil))))) ?_
  ·exact λ _ _=>trivial
  ·exact YJ s1 rfl rfl rfl
  ·exact YJ s5 rfl rfl rfl
  ·exact YJ s6 rfl rfl rfl
  ·intro S J O H _ _ C;simp [go_sem,(gS J 16 (H.d 0 rfl rfl)),(gS J 17 (H.d 1 rfl rfl)),(gS J 18 (H.d 2 rfl rfl))];refine (sClamp_c wish (Ym u.low) (Yd u.high) O).mono ?_;rintro x wx ⟨rfl,hb⟩;exact (C _ _ (H.k.call hb) rfl trivial)
  ·exact Kb 3 rfl rfl rfl rfl
  intro L a13 w14 P A D I R;replace F:=A.Z F;replace B:=A.E B;have s4:=gS a13 4 (I 4 _ rfl);replace M:=Nat.le_trans M D.size;replace K:=D.below0 K;clear A D I P R s1 s5 s6 s15;refine Xg (wp_ret ?_);refine bodyPost_ret (v:=.int .i64 (max (Ym u.low) (min wish (Yd u.high)))) (by simp [results,Tryz.results128,go_sem,s4]) B ?_;exact ⟨by unfold Ki;rw [if_neg (of_decide_eq_false q10),Int.min_comm],K⟩
end Go.Proofs.YtkjimfapbjdafaaGreat
