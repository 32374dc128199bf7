/-
 Fractions rounded, clamps, inputs in a span, and the input that is picked: of the program and of the reference.
 Conditions: the numbers are ints of the machine.
-/
import Derived.Test.YtkjimfapbjdafaaGreatAdmD
namespace Go.Proofs.YtkjimfapbjdafaaGreat
open Go.RowKit
theorem whIn {n:Int} (h : -1000000000000000000≤n∧n≤1000000000000000000):Yd.In ⟨n,1⟩:=⟨⟨by simp only;omega,by simp only;omega⟩,⟨by simp,by simp⟩⟩
set_option maxRecDepth 100000 in
set_option maxHeartbeats 3000000 in
theorem ceilDiv_c (n d:Int) (w:World) (h1 : -9223372036854775807≤n) (h2:n≤9223372036854775807) (hd:0<d) (hd2:d≤9223372036854775807) :
 Calls Tryz.prog 226 #[.int .i64 n,.int .i64 d] w fun x w'=>x=.returned (.int .i64 (-(-n / d)))∧Below w.heap.size w w':=by
 have hdv:=div_bd (n:=-n) (d:=d) (by omega) (by omega) hd
 refine Y4 Tryz.func226 rfl (n:=10) Tryz.ntmps226 (by simp) ?_
 intro a0 I B ha
 have s0:a0.tmps[0]?.getD undef=.int .i64 n:=ha 0 _ rfl;have s1:a0.tmps[1]?.getD undef=.int .i64 d:=ha 1 _ rfl;clear ha
 have M:=Below.refl w.heap.size w
 have P:=Nat.le_refl w.heap.size
 refine wp_seq ?_
 refine Xe (by kernel_rfl) [4] [some (.int .i64 0)] (X7 1) [4] [0] [] (fun _ _ _=>True) (by kernel_rfl) (by rw [I];decide) ?_ (en rfl ?_ .nil) ?_
 ·exact fun _ _=>trivial
 ·exact Kk rfl rfl
 intro L a1 w2 R C J K S;replace I:=C.Z I;replace B:=C.E B;replace s0:=C.G s0;replace s1:=C.G s1;replace P:=Nat.le_trans P J.size;replace M:=J.below0 M;clear C J K R S;refine Xj (wp_seq ?_)
 refine Xe (by kernel_rfl) [5,6,7,8,9,4] [some (.int .i64 n),some (.int .i64 (-n)),some (.int .i64 d),some (.int .i64 ((-n) / d)),some (.int .i64 (-((-n) / d))),some (.int .i64 (-((-n) / d)))] (X7 6) [5,6,7,8,9,4] [0,1,2,3,4,5] [] (fun _ _ _=>True) (by kernel_rfl) (by rw [I];decide) ?_ (en rfl ?_ (en rfl ?_ (en rfl ?_ (en rfl ?_ (en rfl ?_ (en rfl ?_ .nil)))))) ?_
 ·exact fun _ _=>trivial
 ·exact YA s0 rfl rfl rfl
 ·exact fun O D F H _ _ A=>wp_neg rfl (ev (H.d 0 rfl rfl)) (by omega) (A _ _ H.k rfl trivial)
 ·exact YA s1 rfl rfl rfl
 ·intro O D F H _ _ A
  simp [go_sem,(gS D 6 (H.d 1 rfl rfl)),(gS D 7 (H.d 2 rfl rfl))]
  refine (floorDiv_c (-n) d F (by omega) (by omega) hd hd2).mono ?_
  rintro x wx ⟨rfl,n,rfl⟩
  have hb:Below F.heap.size F (F.drewN n):=YM bR n
  exact (A _ _ (H.k.call hb) rfl trivial)
 ·exact fun O D F H _ _ A=>wp_neg rfl (ev (H.d 3 rfl rfl)) (by omega) (A _ _ H.k rfl trivial)
 ·exact Ke 4 rfl rfl rfl rfl
 intro L a3 w4 R C J K S;replace I:=C.Z I;replace B:=C.E B;have s4:=gS a3 4 (K 5 _ rfl);replace P:=Nat.le_trans P J.size;replace M:=J.below0 M;clear C J K R S s0 s1;refine Xj (wp_ret ?_)
 refine bodyPost_ret (v:=.int .i64 (-((-n) / d))) (by simp [results,Tryz.results226,go_sem,s4]) B ?_
 exact ⟨rfl,M⟩
set_option maxRecDepth 100000 in
set_option maxHeartbeats 3000000 in
theorem iRatFloor_c (r:Yd) (w:World) (hr:r.In) :
 Calls Tryz.prog 170 #[X6 r] w fun x w'=>x=.returned (.int .i64 (Yp r))∧Below w.heap.size w w':=by
 refine Y4 Tryz.func170 rfl (n:=11) Tryz.ntmps170 (by simp) ?_
 intro a0 I B ha
 have s0:a0.tmps[0]?.getD undef=X6 r:=ha 0 _ rfl;clear ha
 have M:=Below.refl w.heap.size w
 have P:=Nat.le_refl w.heap.size
 refine wp_seq ?_
 refine YK [1,2] [.pointer (some ⟨w.heap.size,0,none⟩),.int .i64 0] [some (.cells [.int .i64 r.n,.int .i64 r.d].toArray 70),none] [0,1] [1,2] [0,1] (by kernel_rfl) (by rw [I];decide) (ec ?_ (ec ?_ .nil)) ?_
 ·intro a w' C hs N Q A;simp [go_sem,C.g rfl s0];rw [hs];exact A
 ·intro a w' C hs N Q A;simp [go_sem];exact A
 intro a1 w2 C K hb hO
 replace I:=C.size.trans I;replace B:=C.defers.trans B
 have s1:a1.tmps[1]?.getD undef=.pointer (some ⟨w.heap.size,0,none⟩):=K 0 (by decide)
 have b3:Xy w2 w.heap.size 70 [.int .i64 r.n,.int .i64 r.d]:=hO 0 _ rfl
 have hG:=b3.lt
 replace M:=Xh M hb;have zw2:=Nat.le_trans P hb.size;replace P:=Nat.le_refl w2.heap.size;clear C K hb hO s0;refine Xj (wp_seq (wp_seq ?_))
 refine Xe (by kernel_rfl) [3,4,5] [some (X6 r),some (.bool (Xp r)),some (.bool (!(Xp r)))] (X7 3) [3,4,5] [0,1,2] [] (fun _ _ _=>True) (by kernel_rfl) (by rw [I];decide) ?_ (en rfl ?_ (en rfl ?_ (en rfl ?_ .nil))) ?_
 ·exact fun _ _=>trivial
 ·intro O D F H _ _ A
  simp [go_sem,H.f.g rfl s1,(b3.k0 H.k).cell]
  exact (A _ _ H.k rfl trivial)
 ·intro O D F H _ _ A
  simp [go_sem,(gS D 3 (H.d 0 rfl rfl))]
  refine (Kb r F hr).mono ?_
  rintro x wx ⟨rfl,hb⟩
  exact (A _ _ (H.k.call hb) rfl trivial)
 ·exact Jn 1 rfl rfl rfl rfl
 intro L a4 w5 R C J K S;replace I:=C.Z I;replace B:=C.E B;replace s1:=C.G s1;have s5:=gS a4 5 (K 2 _ rfl);replace b3:=b3.k0 J;replace P:=Nat.le_trans P J.size;replace M:=J.below0 M;clear C J K R S;refine Xj ?_
 rcases Bool.eq_false_or_eq_true (!(Xp r)) with q6|q6
 ·refine wp_cond_true (ev (vb s5 q6)) ?_
  refine wp_seq ?_
  refine Xe (by kernel_rfl) [2] [some (.int .i64 0)] (X7 1) [2] [0] [] (fun _ _ _=>True) (by kernel_rfl) (by rw [I];decide) ?_ (en rfl ?_ .nil) ?_
  ·exact fun _ _=>trivial
  ·exact Kk rfl rfl
  intro L a7 w8 R C J K S;replace I:=C.Z I;replace B:=C.E B;have s2:=gS a7 2 (K 0 _ rfl);replace P:=Nat.le_trans P J.size;replace M:=J.below0 M;clear C J K R S s1 s5 b3;refine Xj (wp_ret (YY ?_))
  refine bodyPost_ret (v:=.int .i64 0) (by simp [results,Tryz.results170,go_sem,s2]) B ?_
  exact ⟨by rw [show Yp r=0 by unfold Yp;rw [not_t q6,if_neg (by simp)]],M⟩
 ·obtain ⟨k1,k2,k3,k4⟩:=rok_bd (Zv q6)
  refine wp_cond_false (ev (vb s5 q6)) ?_
  refine wp_skip (Xj (wp_seq ?_))
  refine Xe (by kernel_rfl) [6,7,8,9,10,2] [some (.pointer (some ⟨w.heap.size,0,none⟩)),some (.int .i64 r.n),some (.pointer (some ⟨w.heap.size,1,none⟩)),some (.int .i64 r.d),some (.int .i64 (r.n / r.d)),some (.int .i64 (r.n / r.d))] (X7 6) [6,7,8,9,10,2] [0,1,2,3,4,5] [] (fun _ _ _=>True) (by kernel_rfl) (by rw [I];decide) ?_ (en rfl ?_ (en rfl ?_ (en rfl ?_ (en rfl ?_ (en rfl ?_ (en rfl ?_ .nil)))))) ?_
  ·exact fun _ _=>trivial
  ·intro O D F H _ _ A
   simp [go_sem,H.f.g rfl s1]
   exact (A _ _ H.k rfl trivial)
  ·intro O D F H _ _ A
   simp [go_sem,(gS D 6 (H.d 0 rfl rfl)),(b3.k0 H.k).cell]
   exact (A _ _ H.k rfl trivial)
  ·intro O D F H _ _ A
   simp [go_sem,H.f.g rfl s1]
   exact (A _ _ H.k rfl trivial)
  ·intro O D F H _ _ A
   simp [go_sem,(gS D 8 (H.d 2 rfl rfl)),(b3.k0 H.k).cell]
   exact (A _ _ H.k rfl trivial)
  ·intro O D F H _ _ A
   simp [go_sem,(gS D 7 (H.d 1 rfl rfl)),(gS D 9 (H.d 3 rfl rfl))]
   refine (floorDiv_c r.n r.d F k1 k2 k3 k4).mono ?_
   rintro x wx ⟨rfl,n,rfl⟩
   have hb:Below F.heap.size F (F.drewN n):=YM bR n
   exact (A _ _ (H.k.call hb) rfl trivial)
  ·exact Ke 4 rfl rfl rfl rfl
  intro L a9 w10 R C J K S;replace I:=C.Z I;replace B:=C.E B;have s2:=gS a9 2 (K 5 _ rfl);replace P:=Nat.le_trans P J.size;replace M:=J.below0 M;clear C J K R S s1 s5 b3;refine Xj (wp_ret ?_)
  refine bodyPost_ret (v:=.int .i64 (r.n / r.d)) (by simp [results,Tryz.results170,go_sem,s2]) B ?_
  exact ⟨by rw [show Yp r=r.n / r.d by unfold Yp;rw [Zv q6,if_pos (by simp)]],M⟩
set_option maxRecDepth 100000 in
set_option maxHeartbeats 3000000 in
theorem iRatCeil_c (r:Yd) (w:World) (hr:r.In) :
 Calls Tryz.prog 171 #[X6 r] w fun x w'=>x=.returned (.int .i64 (YL r))∧Below w.heap.size w w':=by
 refine Y4 Tryz.func171 rfl (n:=11) Tryz.ntmps171 (by simp) ?_
 intro a0 I B ha
 have s0:a0.tmps[0]?.getD undef=X6 r:=ha 0 _ rfl;clear ha
 have M:=Below.refl w.heap.size w
 have P:=Nat.le_refl w.heap.size
 refine wp_seq ?_
 refine YK [1,2] [.pointer (some ⟨w.heap.size,0,none⟩),.int .i64 0] [some (.cells [.int .i64 r.n,.int .i64 r.d].toArray 70),none] [0,1] [1,2] [0,1] (by kernel_rfl) (by rw [I];decide) (ec ?_ (ec ?_ .nil)) ?_
 ·intro a w' C hs N Q A;simp [go_sem,C.g rfl s0];rw [hs];exact A
 ·intro a w' C hs N Q A;simp [go_sem];exact A
 intro a1 w2 C K hb hO
 replace I:=C.size.trans I;replace B:=C.defers.trans B
 have s1:a1.tmps[1]?.getD undef=.pointer (some ⟨w.heap.size,0,none⟩):=K 0 (by decide)
 have b3:Xy w2 w.heap.size 70 [.int .i64 r.n,.int .i64 r.d]:=hO 0 _ rfl
 have hG:=b3.lt
 replace M:=Xh M hb;have zw2:=Nat.le_trans P hb.size;replace P:=Nat.le_refl w2.heap.size;clear C K hb hO s0;refine Xj (wp_seq (wp_seq ?_))
 refine Xe (by kernel_rfl) [3,4,5] [some (X6 r),some (.bool (Xp r)),some (.bool (!(Xp r)))] (X7 3) [3,4,5] [0,1,2] [] (fun _ _ _=>True) (by kernel_rfl) (by rw [I];decide) ?_ (en rfl ?_ (en rfl ?_ (en rfl ?_ .nil))) ?_
 ·exact fun _ _=>trivial
 ·intro O D F H _ _ A
  simp [go_sem,H.f.g rfl s1,(b3.k0 H.k).cell]
  exact (A _ _ H.k rfl trivial)
 ·intro O D F H _ _ A
  simp [go_sem,(gS D 3 (H.d 0 rfl rfl))]
  refine (Kb r F hr).mono ?_
  rintro x wx ⟨rfl,hb⟩
  exact (A _ _ (H.k.call hb) rfl trivial)
 ·exact Jn 1 rfl rfl rfl rfl
 intro L a4 w5 R C J K S;replace I:=C.Z I;replace B:=C.E B;replace s1:=C.G s1;have s5:=gS a4 5 (K 2 _ rfl);replace b3:=b3.k0 J;replace P:=Nat.le_trans P J.size;replace M:=J.below0 M;clear C J K R S;refine Xj ?_
 rcases Bool.eq_false_or_eq_true (!(Xp r)) with q6|q6
 ·refine wp_cond_true (ev (vb s5 q6)) ?_
  refine wp_seq ?_
  refine Xe (by kernel_rfl) [2] [some (.int .i64 0)] (X7 1) [2] [0] [] (fun _ _ _=>True) (by kernel_rfl) (by rw [I];decide) ?_ (en rfl ?_ .nil) ?_
  ·exact fun _ _=>trivial
  ·exact Kk rfl rfl
  intro L a7 w8 R C J K S;replace I:=C.Z I;replace B:=C.E B;have s2:=gS a7 2 (K 0 _ rfl);replace P:=Nat.le_trans P J.size;replace M:=J.below0 M;clear C J K R S s1 s5 b3;refine Xj (wp_ret (YY ?_))
  refine bodyPost_ret (v:=.int .i64 0) (by simp [results,Tryz.results171,go_sem,s2]) B ?_
  exact ⟨by rw [show YL r=0 by unfold YL;rw [not_t q6,if_neg (by simp)]],M⟩
 ·obtain ⟨k1,k2,k3,k4⟩:=rok_bd (Zv q6)
  have hdv:=div_bd (n:=-r.n) (d:=r.d) (by omega) (by omega) k3
  refine wp_cond_false (ev (vb s5 q6)) ?_
  refine wp_skip (Xj (wp_seq ?_))
  refine Xe (by kernel_rfl) [6,7,8,9,10,2] [some (.pointer (some ⟨w.heap.size,0,none⟩)),some (.int .i64 r.n),some (.pointer (some ⟨w.heap.size,1,none⟩)),some (.int .i64 r.d),some (.int .i64 (-(-r.n / r.d))),some (.int .i64 (-(-r.n / r.d)))] (X7 6) [6,7,8,9,10,2] [0,1,2,3,4,5] [] (fun _ _ _=>True) (by kernel_rfl) (by rw [I];decide) ?_ (en rfl ?_ (en rfl ?_ (en rfl ?_ (en rfl ?_ (en rfl ?_ (en rfl ?_ .nil)))))) ?_
  ·exact fun _ _=>trivial
  ·intro O D F H _ _ A
   simp [go_sem,H.f.g rfl s1]
   exact (A _ _ H.k rfl trivial)
  ·intro O D F H _ _ A
   simp [go_sem,(gS D 6 (H.d 0 rfl rfl)),(b3.k0 H.k).cell]
   exact (A _ _ H.k rfl trivial)
  ·intro O D F H _ _ A
   simp [go_sem,H.f.g rfl s1]
   exact (A _ _ H.k rfl trivial)
  ·intro O D F H _ _ A
   simp [go_sem,(gS D 8 (H.d 2 rfl rfl)),(b3.k0 H.k).cell]
   exact (A _ _ H.k rfl trivial)
  ·intro O D F H _ _ A
   simp [go_sem,(gS D 7 (H.d 1 rfl rfl)),(gS D 9 (H.d 3 rfl rfl))]
   refine (ceilDiv_c r.n r.d F k1 k2 k3 k4).mono ?_
   rintro x wx ⟨rfl,hb⟩
   exact (A _ _ (H.k.call hb) rfl trivial)
  ·exact Ke 4 rfl rfl rfl rfl
  intro L a9 w10 R C J K S;replace I:=C.Z I;replace B:=C.E B;have s2:=gS a9 2 (K 5 _ rfl);replace P:=Nat.le_trans P J.size;replace M:=J.below0 M;clear C J K R S s1 s5 b3;refine Xj (wp_ret ?_)
  refine bodyPost_ret (v:=.int .i64 (-(-r.n / r.d))) (by simp [results,Tryz.results171,go_sem,s2]) B ?_
  exact ⟨by rw [show YL r = -(-r.n / r.d) by unfold YL;rw [Zv q6,if_pos (by simp)]],M⟩
set_option maxRecDepth 100000 in
set_option maxHeartbeats 3000000 in
theorem sRatFloor_c (r:Yd) (w:World) (hr:r.In) :
 Calls Tryz.prog 166 #[X6 r] w fun x w'=>x=.returned (.int .i64 (Yp r))∧Below w.heap.size w w':=by
 refine Y4 Tryz.func166 rfl (n:=11) Tryz.ntmps166 (by simp) ?_
 intro a0 I B ha
 have s0:a0.tmps[0]?.getD undef=X6 r:=ha 0 _ rfl;clear ha
 have M:=Below.refl w.heap.size w
 have P:=Nat.le_refl w.heap.size
 refine wp_seq ?_
 refine YK [1,2] [.pointer (some ⟨w.heap.size,0,none⟩),.int .i64 0] [some (.cells [.int .i64 r.n,.int .i64 r.d].toArray 70),none] [0,1] [1,2] [0,1] (by kernel_rfl) (by rw [I];decide) (ec ?_ (ec ?_ .nil)) ?_
 ·intro a w' C hs N Q A;simp [go_sem,C.g rfl s0];rw [hs];exact A
 ·intro a w' C hs N Q A;simp [go_sem];exact A
 intro a1 w2 C K hb hO
 replace I:=C.size.trans I;replace B:=C.defers.trans B
 have s1:a1.tmps[1]?.getD undef=.pointer (some ⟨w.heap.size,0,none⟩):=K 0 (by decide)
 have b3:Xy w2 w.heap.size 70 [.int .i64 r.n,.int .i64 r.d]:=hO 0 _ rfl
 have hG:=b3.lt
 replace M:=Xh M hb;have zw2:=Nat.le_trans P hb.size;replace P:=Nat.le_refl w2.heap.size;clear C K hb hO s0;refine Xj (wp_seq (wp_seq ?_))
 refine Xe (by kernel_rfl) [3,4,5] [some (X6 r),some (.bool (Xp r)),some (.bool (!(Xp r)))] (X7 3) [3,4,5] [0,1,2] [] (fun _ _ _=>True) (by kernel_rfl) (by rw [I];decide) ?_ (en rfl ?_ (en rfl ?_ (en rfl ?_ .nil))) ?_
 ·exact fun _ _=>trivial
 ·intro O D F H _ _ A
  simp [go_sem,H.f.g rfl s1,(b3.k0 H.k).cell]
  exact (A _ _ H.k rfl trivial)
 ·intro O D F H _ _ A
  simp [go_sem,(gS D 3 (H.d 0 rfl rfl))]
  refine (Zx r F hr).mono ?_
  rintro x wx ⟨rfl,hb⟩
  exact (A _ _ (H.k.call hb) rfl trivial)
 ·exact Jn 1 rfl rfl rfl rfl
 intro L a4 w5 R C J K S;replace I:=C.Z I;replace B:=C.E B;replace s1:=C.G s1;have s5:=gS a4 5 (K 2 _ rfl);replace b3:=b3.k0 J;replace P:=Nat.le_trans P J.size;replace M:=J.below0 M;clear C J K R S;refine Xj ?_
 rcases Bool.eq_false_or_eq_true (!(Xp r)) with q6|q6
 ·refine wp_cond_true (ev (vb s5 q6)) ?_
  refine wp_seq ?_
  refine Xe (by kernel_rfl) [2] [some (.int .i64 0)] (X7 1) [2] [0] [] (fun _ _ _=>True) (by kernel_rfl) (by rw [I];decide) ?_ (en rfl ?_ .nil) ?_
  ·exact fun _ _=>trivial
  ·exact Kk rfl rfl
  intro L a7 w8 R C J K S;replace I:=C.Z I;replace B:=C.E B;have s2:=gS a7 2 (K 0 _ rfl);replace P:=Nat.le_trans P J.size;replace M:=J.below0 M;clear C J K R S s1 s5 b3;refine Xj (wp_ret (YY ?_))
  refine bodyPost_ret (v:=.int .i64 0) (by simp [results,Tryz.results166,go_sem,s2]) B ?_
  exact ⟨by rw [show Yp r=0 by unfold Yp;rw [not_t q6,if_neg (by simp)]],M⟩
 ·obtain ⟨k1,k2,k3,k4⟩:=rok_bd (Zv q6)
  refine wp_cond_false (ev (vb s5 q6)) ?_
  refine wp_skip (Xj (wp_seq ?_))
  refine Xe (by kernel_rfl) [6,7,8,9,10,2] [some (.pointer (some ⟨w.heap.size,0,none⟩)),some (.int .i64 r.n),some (.pointer (some ⟨w.heap.size,1,none⟩)),some (.int .i64 r.d),some (.int .i64 (r.n / r.d)),some (.int .i64 (r.n / r.d))] (X7 6) [6,7,8,9,10,2] [0,1,2,3,4,5] [] (fun _ _ _=>True) (by kernel_rfl) (by rw [I];decide) ?_ (en rfl ?_ (en rfl ?_ (en rfl ?_ (en rfl ?_ (en rfl ?_ (en rfl ?_ .nil)))))) ?_
  ·exact fun _ _=>trivial
  ·intro O D F H _ _ A
   simp [go_sem,H.f.g rfl s1]
   exact (A _ _ H.k rfl trivial)
  ·intro O D F H _ _ A
   simp [go_sem,(gS D 6 (H.d 0 rfl rfl)),(b3.k0 H.k).cell]
   exact (A _ _ H.k rfl trivial)
  ·intro O D F H _ _ A
   simp [go_sem,H.f.g rfl s1]
   exact (A _ _ H.k rfl trivial)
  ·intro O D F H _ _ A
   simp [go_sem,(gS D 8 (H.d 2 rfl rfl)),(b3.k0 H.k).cell]
   exact (A _ _ H.k rfl trivial)
  ·intro O D F H _ _ A
   simp [go_sem,(gS D 7 (H.d 1 rfl rfl)),(gS D 9 (H.d 3 rfl rfl))]
   refine (l02Floor_c r.n r.d F k1 k2 k3 k4).mono ?_
   rintro x wx ⟨rfl,n,rfl⟩
   have hb:Below F.heap.size F (F.drewN n):=YM bR n
   exact (A _ _ (H.k.call hb) rfl trivial)
  ·exact Ke 4 rfl rfl rfl rfl
  intro L a9 w10 R C J K S;replace I:=C.Z I;replace B:=C.E B;have s2:=gS a9 2 (K 5 _ rfl);replace P:=Nat.le_trans P J.size;replace M:=J.below0 M;clear C J K R S s1 s5 b3;refine Xj (wp_ret ?_)
  refine bodyPost_ret (v:=.int .i64 (r.n / r.d)) (by simp [results,Tryz.results166,go_sem,s2]) B ?_
  exact ⟨by rw [show Yp r=r.n / r.d by unfold Yp;rw [Zv q6,if_pos (by simp)]],M⟩
set_option maxRecDepth 100000 in
set_option maxHeartbeats 3000000 in
theorem sRatCeil_c (r:Yd) (w:World) (hr:r.In) :
 Calls Tryz.prog 167 #[X6 r] w fun x w'=>x=.returned (.int .i64 (YL r))∧Below w.heap.size w w':=by
 refine Y4 Tryz.func167 rfl (n:=13) Tryz.ntmps167 (by simp) ?_
 intro a0 I B ha
 have s0:a0.tmps[0]?.getD undef=X6 r:=ha 0 _ rfl;clear ha
 have M:=Below.refl w.heap.size w
 have P:=Nat.le_refl w.heap.size
 refine wp_seq ?_
 refine YK [1,2] [.pointer (some ⟨w.heap.size,0,none⟩),.int .i64 0] [some (.cells [.int .i64 r.n,.int .i64 r.d].toArray 70),none] [0,1] [1,2] [0,1] (by kernel_rfl) (by rw [I];decide) (ec ?_ (ec ?_ .nil)) ?_
 ·intro a w' C hs N Q A;simp [go_sem,C.g rfl s0];rw [hs];exact A
 ·intro a w' C hs N Q A;simp [go_sem];exact A
 intro a1 w2 C K hb hO
 replace I:=C.size.trans I;replace B:=C.defers.trans B
 have s1:a1.tmps[1]?.getD undef=.pointer (some ⟨w.heap.size,0,none⟩):=K 0 (by decide)
 have b3:Xy w2 w.heap.size 70 [.int .i64 r.n,.int .i64 r.d]:=hO 0 _ rfl
 have hG:=b3.lt
 replace M:=Xh M hb;have zw2:=Nat.le_trans P hb.size;replace P:=Nat.le_refl w2.heap.size;clear C K hb hO s0;refine Xj (wp_seq (wp_seq ?_))
 refine Xe (by kernel_rfl) [3,4,5] [some (X6 r),some (.bool (Xp r)),some (.bool (!(Xp r)))] (X7 3) [3,4,5] [0,1,2] [] (fun _ _ _=>True) (by kernel_rfl) (by rw [I];decide) ?_ (en rfl ?_ (en rfl ?_ (en rfl ?_ .nil))) ?_
 ·exact fun _ _=>trivial
 ·intro O D F H _ _ A
  simp [go_sem,H.f.g rfl s1,(b3.k0 H.k).cell]
  exact (A _ _ H.k rfl trivial)
 ·intro O D F H _ _ A
  simp [go_sem,(gS D 3 (H.d 0 rfl rfl))]
  refine (Zx r F hr).mono ?_
  rintro x wx ⟨rfl,hb⟩
  exact (A _ _ (H.k.call hb) rfl trivial)
 ·exact Jn 1 rfl rfl rfl rfl
 intro L a4 w5 R C J K S;replace I:=C.Z I;replace B:=C.E B;replace s1:=C.G s1;have s5:=gS a4 5 (K 2 _ rfl);replace b3:=b3.k0 J;replace P:=Nat.le_trans P J.size;replace M:=J.below0 M;clear C J K R S;refine Xj ?_
 rcases Bool.eq_false_or_eq_true (!(Xp r)) with q6|q6
 ·refine wp_cond_true (ev (vb s5 q6)) ?_
  refine wp_seq ?_
  refine Xe (by kernel_rfl) [2] [some (.int .i64 0)] (X7 1) [2] [0] [] (fun _ _ _=>True) (by kernel_rfl) (by rw [I];decide) ?_ (en rfl ?_ .nil) ?_
  ·exact fun _ _=>trivial
  ·exact Kk rfl rfl
  intro L a7 w8 R C J K S;replace I:=C.Z I;replace B:=C.E B;have s2:=gS a7 2 (K 0 _ rfl);replace P:=Nat.le_trans P J.size;replace M:=J.below0 M;clear C J K R S s1 s5 b3;refine Xj (wp_ret (YY ?_))
  refine bodyPost_ret (v:=.int .i64 0) (by simp [results,Tryz.results167,go_sem,s2]) B ?_
  exact ⟨by rw [show YL r=0 by unfold YL;rw [not_t q6,if_neg (by simp)]],M⟩
 ·obtain ⟨k1,k2,k3,k4⟩:=rok_bd (Zv q6)
  have hdv:=div_bd (n:=-r.n) (d:=r.d) (by omega) (by omega) k3
  refine wp_cond_false (ev (vb s5 q6)) ?_
  refine wp_skip (Xj (wp_seq ?_))
  refine Xe (by kernel_rfl) [6,7,8,9,10,11,12,2] [some (.pointer (some ⟨w.heap.size,0,none⟩)),some (.int .i64 r.n),some (.int .i64 (-r.n)),some (.pointer (some ⟨w.heap.size,1,none⟩)),some (.int .i64 r.d),some (.int .i64 ((-r.n) / r.d)),some (.int .i64 (-((-r.n) / r.d))),some (.int .i64 (-((-r.n) / r.d)))] (X7 8) [6,7,8,9,10,11,12,2] [0,1,2,3,4,5,6,7] [] (fun _ _ _=>True) (by kernel_rfl) (by rw [I];decide) ?_ (en rfl ?_ (en rfl ?_ (en rfl ?_ (en rfl ?_ (en rfl ?_ (en rfl ?_ (en rfl ?_ (en rfl ?_ .nil)))))))) ?_
  ·exact fun _ _=>trivial
  ·intro O D F H _ _ A
   simp [go_sem,H.f.g rfl s1]
   exact (A _ _ H.k rfl trivial)
  ·intro O D F H _ _ A
   simp [go_sem,(gS D 6 (H.d 0 rfl rfl)),(b3.k0 H.k).cell]
   exact (A _ _ H.k rfl trivial)
  ·exact fun O D F H _ _ A=>wp_neg rfl (ev (H.d 1 rfl rfl)) (by omega) (A _ _ H.k rfl trivial)
  ·intro O D F H _ _ A
   simp [go_sem,H.f.g rfl s1]
   exact (A _ _ H.k rfl trivial)
  ·intro O D F H _ _ A
   simp [go_sem,(gS D 9 (H.d 3 rfl rfl)),(b3.k0 H.k).cell]
   exact (A _ _ H.k rfl trivial)
  ·intro O D F H _ _ A
   simp [go_sem,(gS D 8 (H.d 2 rfl rfl)),(gS D 10 (H.d 4 rfl rfl))]
   refine (l02Floor_c (-r.n) r.d F (by omega) (by omega) k3 k4).mono ?_
   rintro x wx ⟨rfl,n,rfl⟩
   have hb:Below F.heap.size F (F.drewN n):=YM bR n
   exact (A _ _ (H.k.call hb) rfl trivial)
  ·exact fun O D F H _ _ A=>wp_neg rfl (ev (H.d 5 rfl rfl)) (by omega) (A _ _ H.k rfl trivial)
  ·exact Ke 6 rfl rfl rfl rfl
  intro L a9 w10 R C J K S;replace I:=C.Z I;replace B:=C.E B;have s2:=gS a9 2 (K 7 _ rfl);replace P:=Nat.le_trans P J.size;replace M:=J.below0 M;clear C J K R S s1 s5 b3;refine Xj (wp_ret ?_)
  refine bodyPost_ret (v:=.int .i64 (-((-r.n) / r.d))) (by simp [results,Tryz.results167,go_sem,s2]) B ?_
  exact ⟨by rw [show YL r = -((-r.n) / r.d) by unfold YL;rw [Zv q6,if_pos (by simp)]],M⟩
set_option maxRecDepth 100000 in
set_option maxHeartbeats 3000000 in
theorem sInSpan_c (v:YX) (u:Yd) (w:World) (hv:v.In) (hu:u.In) :
 Calls Tryz.prog 120 #[Yf v,X6 u] w fun x w'=>x=.returned (.bool (Ju v u))∧Below w.heap.size w w':=by
 refine Y4 Tryz.func120 rfl (n:=25) Tryz.ntmps120 (by simp) ?_
 intro a0 I B ha
 have s0:a0.tmps[0]?.getD undef=Yf v:=ha 0 _ rfl;have s1:a0.tmps[1]?.getD undef=X6 u:=ha 1 _ rfl;clear ha
 have M:=Below.refl w.heap.size w
 have P:=Nat.le_refl w.heap.size
 refine wp_seq ?_
 refine YK [2,3,4] [.pointer (some ⟨w.heap.size,0,none⟩),.pointer (some ⟨(w.heap.size+1),0,none⟩),.bool false] [some (.cells [.int .i64 v.low.n,.int .i64 v.low.d,.int .i64 v.high.n,.int .i64 v.high.d].toArray 72),some (.cells [.int .i64 u.n,.int .i64 u.d].toArray 70),none] [0,1,2] [2,3,4] [0,1,2] (by kernel_rfl) (by rw [I];decide) (ec ?_ (ec ?_ (ec ?_ .nil))) ?_
 ·intro a w' C hs N Q A;simp [go_sem,C.g rfl s0];rw [hs];exact A
 ·intro a w' C hs N Q A;simp [go_sem,C.g rfl s1];rw [hs];exact A
 ·intro a w' C hs N Q A;simp [go_sem];exact A
 intro a1 w2 C K hb hO
 replace I:=C.size.trans I;replace B:=C.defers.trans B
 have s2:a1.tmps[2]?.getD undef=.pointer (some ⟨w.heap.size,0,none⟩):=K 0 (by decide)
 have s3:a1.tmps[3]?.getD undef=.pointer (some ⟨(w.heap.size+1),0,none⟩):=K 1 (by decide)
 have b3:Xy w2 w.heap.size 72 [.int .i64 v.low.n,.int .i64 v.low.d,.int .i64 v.high.n,.int .i64 v.high.d]:=hO 0 _ rfl
 have b4:Xy w2 (w.heap.size+1) 70 [.int .i64 u.n,.int .i64 u.d]:=hO 1 _ rfl
 have hG:=b4.lt
 replace M:=Xh M hb;have zw2:=Nat.le_trans P hb.size;replace P:=Nat.le_refl w2.heap.size;clear C K hb hO s0 s1;refine Xj (wp_seq ?_)
 refine Xe (by kernel_rfl) [5,6,7,8,9,10,11,12,13,14,15,16,17,18,19,20,21,22,23,24,4] [some (Yf v),some (.bool (Xv v)),some (.bool (Xv v)),some ((bif Xv v then (X6 u:Value) else undef)),some ((bif Xv v then (.bool (Xp u):Value) else undef)),some (.bool (Xv v&&Xp u)),some (.bool (Xv v&&Xp u)),some ((bif (Xv v&&Xp u) then (.pointer (some ⟨w.heap.size,0,none⟩):Value) else undef)),some ((bif (Xv v&&Xp u) then (.agg #[.int .i64 v.low.n,.int .i64 v.low.d]:Value) else undef)),some ((bif (Xv v&&Xp u) then (X6 u:Value) else undef)),some ((bif (Xv v&&Xp u) then (.int .i64 (Xq v.low u):Value) else undef)),some ((bif (Xv v&&Xp u) then (.bool (decide (Xq v.low u≤0)):Value) else undef)),some (.bool ((Xv v&&Xp u)&&decide (Xq v.low u≤0))),some (.bool ((Xv v&&Xp u)&&decide (Xq v.low u≤0))),some ((bif ((Xv v&&Xp u)&&decide (Xq v.low u≤0)) then (X6 u:Value) else undef)),some ((bif ((Xv v&&Xp u)&&decide (Xq v.low u≤0)) then (.pointer (some ⟨w.heap.size,2,none⟩):Value) else undef)),some ((bif ((Xv v&&Xp u)&&decide (Xq v.low u≤0)) then (.agg #[.int .i64 v.high.n,.int .i64 v.high.d]:Value) else undef)),some ((bif ((Xv v&&Xp u)&&decide (Xq v.low u≤0)) then (.int .i64 (Xq u v.high):Value) else undef)),some ((bif ((Xv v&&Xp u)&&decide (Xq v.low u≤0)) then (.bool (decide (Xq u v.high≤0)):Value) else undef)),some (.bool (((Xv v&&Xp u)&&decide (Xq v.low u≤0))&&decide (Xq u v.high≤0))),some (.bool (((Xv v&&Xp u)&&decide (Xq v.low u≤0))&&decide (Xq u v.high≤0)))] (X7 21) [5,6,7,8,9,10,11,12,13,14,15,16,17,18,19,20,21,22,23,24,4] [0,1,2,3,4,5,6,7,8,9,10,11,12,13,14,15,16,17,18,19,20] [] (fun _ _ _=>True) (by kernel_rfl) (by rw [I];decide) ?_ (en rfl ?_ (en rfl ?_ (en rfl ?_ (eg ?_ (eg ?_ (en rfl ?_ (en rfl ?_ (eg ?_ (eg ?_ (eg ?_ (eg ?_ (eg ?_ (en rfl ?_ (en rfl ?_ (eg ?_ (eg ?_ (eg ?_ (eg ?_ (eg ?_ (en rfl ?_ (en rfl ?_ .nil))))))))))))))))))))) ?_
 ·exact fun _ _=>trivial
 ·intro O D F H _ _ A
  simp [go_sem,H.f.g rfl s2,(b3.k0 H.k).cell]
  exact (A _ _ H.k rfl trivial)
 ·intro O D F H _ _ A
  simp [go_sem,(gS D 5 (H.d 0 rfl rfl))]
  refine (sSpanOk_c v F hv).mono ?_
  rintro x wx ⟨rfl,hb⟩
  exact (A _ _ (H.k.call hb) rfl trivial)
 ·exact Jj 1 rfl rfl rfl rfl
 ·intro O D F H _ _ A
  refine wgt rfl rfl rfl (H.d 2 rfl rfl) (fun qg=>A _ _ H.k (XA qg).symm trivial) fun qg=>?_
  simp [go_sem,H.f.g rfl s3,(b4.k0 H.k).cell]
  exact (A _ _ H.k (XM qg).symm trivial)
 ·intro O D F H _ _ A
  refine wgt rfl rfl rfl (H.d 2 rfl rfl) (fun qg=>A _ _ H.k (XA qg).symm trivial) fun qg=>?_
  simp [go_sem,(show D.tmps[8]?.getD undef=_ from (H.d 3 rfl rfl).trans (XM qg))]
  refine (Zx u F hu).mono ?_
  rintro x wx ⟨rfl,hb⟩
  exact (A _ _ (H.k.call hb) (XM qg).symm trivial)
 ·exact fun O D F H _ _ A=>Jd rfl (ev (H.d 2 rfl rfl)) (fun h=>(ev ((H.d 4 rfl rfl).trans (XM h))).trans (vand_t h)) (fun h=>vand_f h) (A _ _ H.k rfl trivial)
 ·exact Jj 5 rfl rfl rfl rfl
 ·intro O D F H _ _ A
  refine wgt rfl rfl rfl (H.d 6 rfl rfl) (fun qg=>A _ _ H.k (XA qg).symm trivial) fun qg=>?_
  simp [go_sem,H.f.g rfl s2]
  exact (A _ _ H.k (XM qg).symm trivial)
 ·intro O D F H _ _ A
  refine wgt rfl rfl rfl (H.d 6 rfl rfl) (fun qg=>A _ _ H.k (XA qg).symm trivial) fun qg=>?_
  simp [go_sem,(show D.tmps[12]?.getD undef=_ from (H.d 7 rfl rfl).trans (XM qg)),(b3.k0 H.k).cell]
  exact (A _ _ H.k (XM qg).symm trivial)
 ·intro O D F H _ _ A
  refine wgt rfl rfl rfl (H.d 6 rfl rfl) (fun qg=>A _ _ H.k (XA qg).symm trivial) fun qg=>?_
  simp [go_sem,H.f.g rfl s3,(b4.k0 H.k).cell]
  exact (A _ _ H.k (XM qg).symm trivial)
 ·intro O D F H _ _ A
  refine wgt rfl rfl rfl (H.d 6 rfl rfl) (fun qg=>A _ _ H.k (XA qg).symm trivial) fun qg=>?_
  simp [go_sem,(show D.tmps[13]?.getD undef=_ from (H.d 8 rfl rfl).trans (XM qg)),(show D.tmps[14]?.getD undef=_ from (H.d 9 rfl rfl).trans (XM qg))]
  refine (KL v.low u F hv.1 hu).mono ?_
  rintro x wx ⟨rfl,hb⟩
  exact (A _ _ (H.k.call hb) (XM qg).symm trivial)
 ·intro O D F H _ _ A
  refine wgt rfl rfl rfl (H.d 6 rfl rfl) (fun qg=>A _ _ H.k (XA qg).symm trivial) fun qg=>?_
  exact Yc rfl (ev ((H.d 10 rfl rfl).trans (XM qg))) rfl rfl rfl (A _ _ H.k (XM qg).symm trivial)
 ·exact fun O D F H _ _ A=>Jd rfl (ev (H.d 6 rfl rfl)) (fun h=>(ev ((H.d 11 rfl rfl).trans (XM h))).trans (vand_t h)) (fun h=>vand_f h) (A _ _ H.k rfl trivial)
 ·exact Jj 12 rfl rfl rfl rfl
 ·intro O D F H _ _ A
  refine wgt rfl rfl rfl (H.d 13 rfl rfl) (fun qg=>A _ _ H.k (XA qg).symm trivial) fun qg=>?_
  simp [go_sem,H.f.g rfl s3,(b4.k0 H.k).cell]
  exact (A _ _ H.k (XM qg).symm trivial)
 ·intro O D F H _ _ A
  refine wgt rfl rfl rfl (H.d 13 rfl rfl) (fun qg=>A _ _ H.k (XA qg).symm trivial) fun qg=>?_
  simp [go_sem,H.f.g rfl s2]
  exact (A _ _ H.k (XM qg).symm trivial)
 ·intro O D F H _ _ A
  refine wgt rfl rfl rfl (H.d 13 rfl rfl) (fun qg=>A _ _ H.k (XA qg).symm trivial) fun qg=>?_
  simp [go_sem,(show D.tmps[20]?.getD undef=_ from (H.d 15 rfl rfl).trans (XM qg)),(b3.k0 H.k).cell]
  exact (A _ _ H.k (XM qg).symm trivial)
 ·intro O D F H _ _ A
  refine wgt rfl rfl rfl (H.d 13 rfl rfl) (fun qg=>A _ _ H.k (XA qg).symm trivial) fun qg=>?_
  simp [go_sem,(show D.tmps[19]?.getD undef=_ from (H.d 14 rfl rfl).trans (XM qg)),(show D.tmps[21]?.getD undef=_ from (H.d 16 rfl rfl).trans (XM qg))]
  refine (KL u v.high F hu hv.2).mono ?_
  rintro x wx ⟨rfl,hb⟩
  exact (A _ _ (H.k.call hb) (XM qg).symm trivial)
 ·intro O D F H _ _ A
  refine wgt rfl rfl rfl (H.d 13 rfl rfl) (fun qg=>A _ _ H.k (XA qg).symm trivial) fun qg=>?_
  exact Yc rfl (ev ((H.d 17 rfl rfl).trans (XM qg))) rfl rfl rfl (A _ _ H.k (XM qg).symm trivial)
 ·exact fun O D F H _ _ A=>Jd rfl (ev (H.d 13 rfl rfl)) (fun h=>(ev ((H.d 18 rfl rfl).trans (XM h))).trans (vand_t h)) (fun h=>vand_f h) (A _ _ H.k rfl trivial)
 ·exact Ke 19 rfl rfl rfl rfl
 intro L a5 w6 R C J K S;replace I:=C.Z I;replace B:=C.E B;have s4:=gS a5 4 (K 20 _ rfl);replace P:=Nat.le_trans P J.size;replace M:=J.below0 M;clear C J K R S s2 s3 b3 b4;refine Xj (wp_ret ?_)
 refine bodyPost_ret (v:=.bool (((Xv v&&Xp u)&&decide (Xq v.low u≤0))&&decide (Xq u v.high≤0))) (by simp [results,Tryz.results120,go_sem,s4]) B ?_
 exact ⟨by unfold Ju;rfl,M⟩
theorem sWhole_c (n:Int) (w:World) (h : -1000000000000000000≤n∧n≤1000000000000000000) :
 Calls Tryz.prog 121 #[.int .i64 n,.int .i64 1] w fun x w'=>x=.returned (X6 ⟨n,1⟩)∧Below w.heap.size w w':=by
 have:=JH n 1 w ⟨by omega,by omega⟩ ⟨by omega,by omega⟩
 rw [ratio_whole h] at this
 exact this
end Go.Proofs.YtkjimfapbjdafaaGreat
