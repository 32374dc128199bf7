/-
 Fractions rounded, clamps, inputs in a span, and the input that is picked: of the program and of the reference.
 Conditions: the numbers are ints of the machine.
-/
import Derived.Test.YtkjimfapbjdafaaGreatPickMQd
set_option maxHeartbeats 3000000
set_option maxRecDepth 100000
namespace Go.Proofs.YtkjimfapbjdafaaGreat
open Go.RowKit
theorem ceilDiv_c (n d:Int) (w:World) (h1 : -9223372036854775807<=n) (h2:n<=9223372036854775807) (hd:0<d) (hd2:d<=9223372036854775807) :
 Calls Tryz.prog 226 #[.int .i64 n,.int .i64 d] w λ x w'=>x=.returned (.int .i64 (-(-n / d)))/\Below w.heap.size w w':=by
 have hdv:=div_bd (n:=-n) (d:=d) (by omega) (by omega) hd;refine Y0 Tryz.func226 rfl (n:=10) Tryz.ntmps226 (by simp) ?_;intro a0 F A ha;have s0:a0.tmps[0]?.getD undef=.int .i64 n:=ha 0 _ rfl;have s1:a0.tmps[1]?.getD undef=.int .i64 d:=ha 1 _ rfl;clear ha;have M:=Below.refl w.heap.size w;have O:=Nat.le_refl w.heap.size;refine wp_seq ?_;refine Xe (by kernel_rfl) [4] [some (.int .i64 0)] (X6 1) [4] [0] [] (λ _ _ _=>True) (by kernel_rfl) (by rw [F];decide) ?_ (en rfl ?_ .nil) ?_
 ·exact λ _ _=>trivial
 ·exact Ki rfl rfl
 intro L a1 w2 R B D K S;replace F:=B.Z F;replace A:=B.E A;replace s0:=B.G s0;replace s1:=B.G s1;replace O:=Nat.le_trans O D.size;replace M:=D.below0 M;clear B D K R S;refine Xj (wp_seq ?_);refine Xe (by kernel_rfl) [5,6,7,8,9,4] [some (.int .i64 n),some (.int .i64 (-n)),some (.int .i64 d),some (.int .i64 ((-n) / d)),some (.int .i64 (-((-n) / d))),some (.int .i64 (-((-n) / d)))] (X6 6) [5,6,7,8,9,4] [0,1,2,3,4,5] [] (λ _ _ _=>True) (by kernel_rfl) (by rw [F];decide) ?_ (en rfl ?_ (en rfl ?_ (en rfl ?_ (en rfl ?_ (en rfl ?_ (en rfl ?_ .nil)))))) ?_
 ·exact λ _ _=>trivial
 ·exact Yz s0 rfl rfl rfl
 ·exact λ P I J H _ _ C=>wp_neg rfl (ev (H.d 0 rfl rfl)) (by omega) (C _ _ H.k rfl trivial)
 ·exact Yz s1 rfl rfl rfl
 ·intro P I J H _ _ C;simp [go_sem,(gS I 6 (H.d 1 rfl rfl)),(gS I 7 (H.d 2 rfl rfl))];refine (floorDiv_c (-n) d J (by omega) (by omega) hd hd2).mono ?_;rintro x wx ⟨rfl,n,rfl⟩;have hb:Below J.heap.size J (J.drewN n):=YK bR n;exact (C _ _ (H.k.call hb) rfl trivial)
 ·exact λ P I J H _ _ C=>wp_neg rfl (ev (H.d 3 rfl rfl)) (by omega) (C _ _ H.k rfl trivial)
 ·exact Kd 4 rfl rfl rfl rfl
 intro L a3 w4 R B D K S;replace F:=B.Z F;replace A:=B.E A;have s4:=gS a3 4 (K 5 _ rfl);replace O:=Nat.le_trans O D.size;replace M:=D.below0 M;clear B D K R S s0 s1;refine Xj (wp_ret ?_);refine bodyPost_ret (v:=.int .i64 (-((-n) / d))) (by simp [results,Tryz.results226,go_sem,s4]) A ?_;exact ⟨rfl,M⟩
theorem iRatFloor_c (r:YO) (w:World) (hr:r.In) :
 Calls Tryz.prog 170 #[X9 r] w λ x w'=>x=.returned (.int .i64 (Yu r))/\Below w.heap.size w w':=by
 refine Y0 Tryz.func170 rfl (n:=11) Tryz.ntmps170 (by simp) ?_;intro a0 F A ha;have s0:a0.tmps[0]?.getD undef=X9 r:=ha 0 _ rfl;clear ha;have M:=Below.refl w.heap.size w;have O:=Nat.le_refl w.heap.size;refine wp_seq ?_;refine YI [1,2] [.pointer (some ⟨w.heap.size,0,none⟩),.int .i64 0] [some (.cells [.int .i64 r.n,.int .i64 r.d].toArray 70),none] [0,1] [1,2] [0,1] (by kernel_rfl) (by rw [F];decide) (ec ?_ (ec ?_ .nil)) ?_
 ·intro a w' B hs N Q C;simp [go_sem,B.g rfl s0];rw [hs];exact C
 ·intro a w' B hs N Q C;simp [go_sem];exact C
 intro a1 w2 B K hb hO;replace F:=B.size.trans F;replace A:=B.defers.trans A;have s1:a1.tmps[1]?.getD undef=.pointer (some ⟨w.heap.size,0,none⟩):=K 0 (by decide);have b3:Xz w2 w.heap.size 70 [.int .i64 r.n,.int .i64 r.d]:=hO 0 _ rfl;have hG:=b3.lt;replace M:=Xh M hb;have zw2:=Nat.le_trans O hb.size;replace O:=Nat.le_refl w2.heap.size;clear B K hb hO s0;refine Xj (wp_seq (wp_seq ?_));refine Xe (by kernel_rfl) [3,4,5] [some (X9 r),some (.bool (Xq r)),some (.bool (!(Xq r)))] (X6 3) [3,4,5] [0,1,2] [] (λ _ _ _=>True) (by kernel_rfl) (by rw [F];decide) ?_ (en rfl ?_ (en rfl ?_ (en rfl ?_ .nil))) ?_
 ·exact λ _ _=>trivial
 ·intro P I J H _ _ C;simp [go_sem,H.f.g rfl s1,(b3.k0 H.k).cell];exact (C _ _ H.k rfl trivial)
 ·intro P I J H _ _ C;simp [go_sem,(gS I 3 (H.d 0 rfl rfl))];refine (Ka r J hr).mono ?_;rintro x wx ⟨rfl,hb⟩;exact (C _ _ (H.k.call hb) rfl trivial)
 ·exact Jn 1 rfl rfl rfl rfl
 intro L a4 w5 R B D K S;replace F:=B.Z F;replace A:=B.E A;replace s1:=B.G s1;have s5:=gS a4 5 (K 2 _ rfl);replace b3:=b3.k0 D;replace O:=Nat.le_trans O D.size;replace M:=D.below0 M;clear B D K R S;refine Xj ?_;rcases Bool.eq_false_or_eq_true (!(Xq r)) with q6|q6
 ·refine wp_cond_true (ev (vb s5 q6)) ?_;refine wp_seq ?_;refine Xe (by kernel_rfl) [2] [some (.int .i64 0)] (X6 1) [2] [0] [] (λ _ _ _=>True) (by kernel_rfl) (by rw [F];decide) ?_ (en rfl ?_ .nil) ?_
  ·exact λ _ _=>trivial
  ·exact Ki rfl rfl
  intro L a7 w8 R B D K S;replace F:=B.Z F;replace A:=B.E A;have s2:=gS a7 2 (K 0 _ rfl);replace O:=Nat.le_trans O D.size;replace M:=D.below0 M;clear B D K R S s1 s5 b3;refine Xj (wp_ret (YW ?_));refine bodyPost_ret (v:=.int .i64 0) (by simp [results,Tryz.results170,go_sem,s2]) A ?_;exact ⟨by rw [show Yu r=0 by unfold Yu;rw [not_t q6,if_neg (by simp)]],M⟩
 ·obtain ⟨k1,k2,k3,k4⟩:=rok_bd (Zv q6);refine wp_cond_false (ev (vb s5 q6)) ?_;refine wp_skip (Xj (wp_seq ?_));refine Xe (by kernel_rfl) [6,7,8,9,10,2] [some (.pointer (some ⟨w.heap.size,0,none⟩)),some (.int .i64 r.n),some (.pointer (some ⟨w.heap.size,1,none⟩)),some (.int .i64 r.d),some (.int .i64 (r.n / r.d)),some (.int .i64 (r.n / r.d))] (X6 6) [6,7,8,9,10,2] [0,1,2,3,4,5] [] (λ _ _ _=>True) (by kernel_rfl) (by rw [F];decide) ?_ (en rfl ?_ (en rfl ?_ (en rfl ?_ (en rfl ?_ (en rfl ?_ (en rfl ?_ .nil)))))) ?_
  ·exact λ _ _=>trivial
  ·intro P I J H _ _ C;simp [go_sem,H.f.g rfl s1];exact (C _ _ H.k rfl trivial)
  ·intro P I J H _ _ C;simp [go_sem,(gS I 6 (H.d 0 rfl rfl)),(b3.k0 H.k).cell];exact (C _ _ H.k rfl trivial)
  ·intro P I J H _ _ C;simp [go_sem,H.f.g rfl s1];exact (C _ _ H.k rfl trivial)
  ·intro P I J H _ _ C;simp [go_sem,(gS I 8 (H.d 2 rfl rfl)),(b3.k0 H.k).cell];exact (C _ _ H.k rfl trivial)
  ·intro P I J H _ _ C;simp [go_sem,(gS I 7 (H.d 1 rfl rfl)),(gS I 9 (H.d 3 rfl rfl))];refine (floorDiv_c r.n r.d J k1 k2 k3 k4).mono ?_;rintro x wx ⟨rfl,n,rfl⟩;have hb:Below J.heap.size J (J.drewN n):=YK bR n;exact (C _ _ (H.k.call hb) rfl trivial)
  ·exact Kd 4 rfl rfl rfl rfl
  intro L a9 w10 R B D K S;replace F:=B.Z F;replace A:=B.E A;have s2:=gS a9 2 (K 5 _ rfl);replace O:=Nat.le_trans O D.size;replace M:=D.below0 M;clear B D K R S s1 s5 b3;refine Xj (wp_ret ?_);refine bodyPost_ret (v:=.int .i64 (r.n / r.d)) (by simp [results,Tryz.results170,go_sem,s2]) A ?_;exact ⟨by rw [show Yu r=r.n / r.d by unfold Yu;rw [Zv q6,if_pos (by simp)]],M⟩
theorem iRatCeil_c (r:YO) (w:World) (hr:r.In) :
 Calls Tryz.prog 171 #[X9 r] w λ x w'=>x=.returned (.int .i64 (YP r))/\Below w.heap.size w w':=by
 refine Y0 Tryz.func171 rfl (n:=11) Tryz.ntmps171 (by simp) ?_;intro a0 F A ha;have s0:a0.tmps[0]?.getD undef=X9 r:=ha 0 _ rfl;clear ha;have M:=Below.refl w.heap.size w;have O:=Nat.le_refl w.heap.size;refine wp_seq ?_;refine YI [1,2] [.pointer (some ⟨w.heap.size,0,none⟩),.int .i64 0] [some (.cells [.int .i64 r.n,.int .i64 r.d].toArray 70),none] [0,1] [1,2] [0,1] (by kernel_rfl) (by rw [F];decide) (ec ?_ (ec ?_ .nil)) ?_
 ·intro a w' B hs N Q C;simp [go_sem,B.g rfl s0];rw [hs];exact C
 ·intro a w' B hs N Q C;simp [go_sem];exact C
 intro a1 w2 B K hb hO;replace F:=B.size.trans F;replace A:=B.defers.trans A;have s1:a1.tmps[1]?.getD undef=.pointer (some ⟨w.heap.size,0,none⟩):=K 0 (by decide);have b3:Xz w2 w.heap.size 70 [.int .i64 r.n,.int .i64 r.d]:=hO 0 _ rfl;have hG:=b3.lt;replace M:=Xh M hb;have zw2:=Nat.le_trans O hb.size;replace O:=Nat.le_refl w2.heap.size;clear B K hb hO s0;refine Xj (wp_seq (wp_seq ?_));refine Xe (by kernel_rfl) [3,4,5] [some (X9 r),some (.bool (Xq r)),some (.bool (!(Xq r)))] (X6 3) [3,4,5] [0,1,2] [] (λ _ _ _=>True) (by kernel_rfl) (by rw [F];decide) ?_ (en rfl ?_ (en rfl ?_ (en rfl ?_ .nil))) ?_
 ·exact λ _ _=>trivial
 ·intro P I J H _ _ C;simp [go_sem,H.f.g rfl s1,(b3.k0 H.k).cell];exact (C _ _ H.k rfl trivial)
 ·intro P I J H _ _ C;simp [go_sem,(gS I 3 (H.d 0 rfl rfl))];refine (Ka r J hr).mono ?_;rintro x wx ⟨rfl,hb⟩;exact (C _ _ (H.k.call hb) rfl trivial)
 ·exact Jn 1 rfl rfl rfl rfl
 intro L a4 w5 R B D K S;replace F:=B.Z F;replace A:=B.E A;replace s1:=B.G s1;have s5:=gS a4 5 (K 2 _ rfl);replace b3:=b3.k0 D;replace O:=Nat.le_trans O D.size;replace M:=D.below0 M;clear B D K R S;refine Xj ?_;rcases Bool.eq_false_or_eq_true (!(Xq r)) with q6|q6
 ·refine wp_cond_true (ev (vb s5 q6)) ?_;refine wp_seq ?_;refine Xe (by kernel_rfl) [2] [some (.int .i64 0)] (X6 1) [2] [0] [] (λ _ _ _=>True) (by kernel_rfl) (by rw [F];decide) ?_ (en rfl ?_ .nil) ?_
  ·exact λ _ _=>trivial
  ·exact Ki rfl rfl
  intro L a7 w8 R B D K S;replace F:=B.Z F;replace A:=B.E A;have s2:=gS a7 2 (K 0 _ rfl);replace O:=Nat.le_trans O D.size;replace M:=D.below0 M;clear B D K R S s1 s5 b3;refine Xj (wp_ret (YW ?_));refine bodyPost_ret (v:=.int .i64 0) (by simp [results,Tryz.results171,go_sem,s2]) A ?_;exact ⟨by rw [show YP r=0 by unfold YP;rw [not_t q6,if_neg (by simp)]],M⟩
 ·obtain ⟨k1,k2,k3,k4⟩:=rok_bd (Zv q6);have hdv:=div_bd (n:=-r.n) (d:=r.d) (by omega) (by omega) k3;refine wp_cond_false (ev (vb s5 q6)) ?_;refine wp_skip (Xj (wp_seq ?_));refine Xe (by kernel_rfl) [6,7,8,9,10,2] [some (.pointer (some ⟨w.heap.size,0,none⟩)),some (.int .i64 r.n),some (.pointer (some ⟨w.heap.size,1,none⟩)),some (.int .i64 r.d),some (.int .i64 (-(-r.n / r.d))),some (.int .i64 (-(-r.n / r.d)))] (X6 6) [6,7,8,9,10,2] [0,1,2,3,4,5] [] (λ _ _ _=>True) (by kernel_rfl) (by rw [F];decide) ?_ (en rfl ?_ (en rfl ?_ (en rfl ?_ (en rfl ?_ (en rfl ?_ (en rfl ?_ .nil)))))) ?_
  ·exact λ _ _=>trivial
  ·intro P I J H _ _ C;simp [go_sem,H.f.g rfl s1];exact (C _ _ H.k rfl trivial)
  ·intro P I J H _ _ C;simp [go_sem,(gS I 6 (H.d 0 rfl rfl)),(b3.k0 H.k).cell];exact (C _ _ H.k rfl trivial)
  ·intro P I J H _ _ C;simp [go_sem,H.f.g rfl s1];exact (C _ _ H.k rfl trivial)
  ·intro P I J H _ _ C;simp [go_sem,(gS I 8 (H.d 2 rfl rfl)),(b3.k0 H.k).cell];exact (C _ _ H.k rfl trivial)
  ·intro P I J H _ _ C;simp [go_sem,(gS I 7 (H.d 1 rfl rfl)),(gS I 9 (H.d 3 rfl rfl))];refine (ceilDiv_c r.n r.d J k1 k2 k3 k4).mono ?_;rintro x wx ⟨rfl,hb⟩;exact (C _ _ (H.k.call hb) rfl trivial)
  ·exact Kd 4 rfl rfl rfl rfl
  intro L a9 w10 R B D K S;replace F:=B.Z F;replace A:=B.E A;have s2:=gS a9 2 (K 5 _ rfl);replace O:=Nat.le_trans O D.size;replace M:=D.below0 M;clear B D K R S s1 s5 b3;refine Xj (wp_ret ?_);refine bodyPost_ret (v:=.int .i64 (-(-r.n / r.d))) (by simp [results,Tryz.results171,go_sem,s2]) A ?_;exact ⟨by rw [show YP r = -(-r.n / r.d) by unfold YP;rw [Zv q6,if_pos (by simp)]],M⟩
theorem sRatFloor_c (r:YO) (w:World) (hr:r.In) :
 Calls Tryz.prog 166 #[X9 r] w λ x w'=>x=.returned (.int .i64 (Yu r))/\Below w.heap.size w w':=by
 refine Y0 Tryz.func166 rfl (n:=11) Tryz.ntmps166 (by simp) ?_;intro a0 F A ha;have s0:a0.tmps[0]?.getD undef=X9 r:=ha 0 _ rfl;clear ha;have M:=Below.refl w.heap.size w;have O:=Nat.le_refl w.heap.size;refine wp_seq ?_;refine YI [1,2] [.pointer (some ⟨w.heap.size,0,none⟩),.int .i64 0] [some (.cells [.int .i64 r.n,.int .i64 r.d].toArray 70),none] [0,1] [1,2] [0,1] (by kernel_rfl) (by rw [F];decide) (ec ?_ (ec ?_ .nil)) ?_
 ·intro a w' B hs N Q C;simp [go_sem,B.g rfl s0];rw [hs];exact C
 ·intro a w' B hs N Q C;simp [go_sem];exact C
 intro a1 w2 B K hb hO;replace F:=B.size.trans F;replace A:=B.defers.trans A;have s1:a1.tmps[1]?.getD undef=.pointer (some ⟨w.heap.size,0,none⟩):=K 0 (by decide);have b3:Xz w2 w.heap.size 70 [.int .i64 r.n,.int .i64 r.d]:=hO 0 _ rfl;have hG:=b3.lt;replace M:=Xh M hb;have zw2:=Nat.le_trans O hb.size;replace O:=Nat.le_refl w2.heap.size;clear B K hb hO s0;refine Xj (wp_seq (wp_seq ?_));refine Xe (by kernel_rfl) [3,4,5] [some (X9 r),some (.bool (Xq r)),some (.bool (!(Xq r)))] (X6 3) [3,4,5] [0,1,2] [] (λ _ _ _=>True) (by kernel_rfl) (by rw [F];decide) ?_ (en rfl ?_ (en rfl ?_ (en rfl ?_ .nil))) ?_
 ·exact λ _ _=>trivial
 ·intro P I J H _ _ C;simp [go_sem,H.f.g rfl s1,(b3.k0 H.k).cell];exact (C _ _ H.k rfl trivial)
 ·intro P I J H _ _ C;simp [go_sem,(gS I 3 (H.d 0 rfl rfl))];refine (Zx r J hr).mono ?_;rintro x wx ⟨rfl,hb⟩;exact (C _ _ (H.k.call hb) rfl trivial)
 ·exact Jn 1 rfl rfl rfl rfl
 intro L a4 w5 R B D K S;replace F:=B.Z F;replace A:=B.E A;replace s1:=B.G s1;have s5:=gS a4 5 (K 2 _ rfl);replace b3:=b3.k0 D;replace O:=Nat.le_trans O D.size;replace M:=D.below0 M;clear B D K R S;refine Xj ?_;rcases Bool.eq_false_or_eq_true (!(Xq r)) with q6|q6
 ·refine wp_cond_true (ev (vb s5 q6)) ?_;refine wp_seq ?_;refine Xe (by kernel_rfl) [2] [some (.int .i64 0)] (X6 1) [2] [0] [] (λ _ _ _=>True) (by kernel_rfl) (by rw [F];decide) ?_ (en rfl ?_ .nil) ?_
  ·exact λ _ _=>trivial
  ·exact Ki rfl rfl
  intro L a7 w8 R B D K S;replace F:=B.Z F;replace A:=B.E A;have s2:=gS a7 2 (K 0 _ rfl);replace O:=Nat.le_trans O D.size;replace M:=D.below0 M;clear B D K R S s1 s5 b3;refine Xj (wp_ret (YW ?_));refine bodyPost_ret (v:=.int .i64 0) (by simp [results,Tryz.results166,go_sem,s2]) A ?_;exact ⟨by rw [show Yu r=0 by unfold Yu;rw [not_t q6,if_neg (by simp)]],M⟩
 ·obtain ⟨k1,k2,k3,k4⟩:=rok_bd (Zv q6);refine wp_cond_false (ev (vb s5 q6)) ?_;refine wp_skip (Xj (wp_seq ?_));refine Xe (by kernel_rfl) [6,7,8,9,10,2] [some (.pointer (some ⟨w.heap.size,0,none⟩)),some (.int .i64 r.n),some (.pointer (some ⟨w.heap.size,1,none⟩)),some (.int .i64 r.d),some (.int .i64 (r.n / r.d)),some (.int .i64 (r.n / r.d))] (X6 6) [6,7,8,9,10,2] [0,1,2,3,4,5] [] (λ _ _ _=>True) (by kernel_rfl) (by rw [F];decide) ?_ (en rfl ?_ (en rfl ?_ (en rfl ?_ (en rfl ?_ (en rfl ?_ (en rfl ?_ .nil)))))) ?_
  ·exact λ _ _=>trivial
  ·intro P I J H _ _ C;simp [go_sem,H.f.g rfl s1];exact (C _ _ H.k rfl trivial)
  ·intro P I J H _ _ C;simp [go_sem,(gS I 6 (H.d 0 rfl rfl)),(b3.k0 H.k).cell];exact (C _ _ H.k rfl trivial)
  ·intro P I J H _ _ C;simp [go_sem,H.f.g rfl s1];exact (C _ _ H.k rfl trivial)
  ·intro P I J H _ _ C;simp [go_sem,(gS I 8 (H.d 2 rfl rfl)),(b3.k0 H.k).cell];exact (C _ _ H.k rfl trivial)
  ·intro P I J H _ _ C;simp [go_sem,(gS I 7 (H.d 1 rfl rfl)),(gS I 9 (H.d 3 rfl rfl))];refine (l02Floor_c r.n r.d J k1 k2 k3 k4).mono ?_;rintro x wx ⟨rfl,n,rfl⟩;have hb:Below J.heap.size J (J.drewN n):=YK bR n;exact (C _ _ (H.k.call hb) rfl trivial)
  ·exact Kd 4 rfl rfl rfl rfl
  intro L a9 w10 R B D K S;replace F:=B.Z F;replace A:=B.E A;have s2:=gS a9 2 (K 5 _ rfl);replace O:=Nat.le_trans O D.size;replace M:=D.below0 M;clear B D K R S s1 s5 b3;refine Xj (wp_ret ?_);refine bodyPost_ret (v:=.int .i64 (r.n / r.d)) (by simp [results,Tryz.results166,go_sem,s2]) A ?_;exact ⟨by rw [show Yu r=r.n / r.d by unfold Yu;rw [Zv q6,if_pos (by simp)]],M⟩
theorem sRatCeil_c (r:YO) (w:World) (hr:r.In) :
 Calls Tryz.prog 167 #[X9 r] w λ x w'=>x=.returned (.int .i64 (YP r))/\Below w.heap.size w w':=by
 refine Y0 Tryz.func167 rfl (n:=13) Tryz.ntmps167 (by simp) ?_;intro a0 F A ha;have s0:a0.tmps[0]?.getD undef=X9 r:=ha 0 _ rfl;clear ha;have M:=Below.refl w.heap.size w;have O:=Nat.le_refl w.heap.size;refine wp_seq ?_;refine YI [1,2] [.pointer (some ⟨w.heap.size,0,none⟩),.int .i64 0] [some (.cells [.int .i64 r.n,.int .i64 r.d].toArray 70),none] [0,1] [1,2] [0,1] (by kernel_rfl) (by rw [F];decide) (ec ?_ (ec ?_ .nil)) ?_
 ·intro a w' B hs N Q C;simp [go_sem,B.g rfl s0];rw [hs];exact C
 ·intro a w' B hs N Q C;simp [go_sem];exact C
 intro a1 w2 B K hb hO;replace F:=B.size.trans F;replace A:=B.defers.trans A;have s1:a1.tmps[1]?.getD undef=.pointer (some ⟨w.heap.size,0,none⟩):=K 0 (by decide);have b3:Xz w2 w.heap.size 70 [.int .i64 r.n,.int .i64 r.d]:=hO 0 _ rfl;have hG:=b3.lt;replace M:=Xh M hb;have zw2:=Nat.le_trans O hb.size;replace O:=Nat.le_refl w2.heap.size;clear B K hb hO s0;refine Xj (wp_seq (wp_seq ?_));refine Xe (by kernel_rfl) [3,4,5] [some (X9 r),some (.bool (Xq r)),some (.bool (!(Xq r)))] (X6 3) [3,4,5] [0,1,2] [] (λ _ _ _=>True) (by kernel_rfl) (by rw [F];decide) ?_ (en rfl ?_ (en rfl ?_ (en rfl ?_ .nil))) ?_
 ·exact λ _ _=>trivial
 ·intro P I J H _ _ C;simp [go_sem,H.f.g rfl s1,(b3.k0 H.k).cell];exact (C _ _ H.k rfl trivial)
 ·intro P I J H _ _ C;simp [go_sem,(gS I 3 (H.d 0 rfl rfl))];refine (Zx r J hr).mono ?_;rintro x wx ⟨rfl,hb⟩;exact (C _ _ (H.k.call hb) rfl trivial)
 ·exact Jn 1 rfl rfl rfl rfl
 intro L a4 w5 R B D K S;replace F:=B.Z F;replace A:=B.E A;replace s1:=B.G s1;have s5:=gS a4 5 (K 2 _ rfl);replace b3:=b3.k0 D;replace O:=Nat.le_trans O D.size;replace M:=D.below0 M;clear B D K R S;refine Xj ?_;rcases Bool.eq_false_or_eq_true (!(Xq r)) with q6|q6
 ·refine wp_cond_true (ev (vb s5 q6)) ?_;refine wp_seq ?_;refine Xe (by kernel_rfl) [2] [some (.int .i64 0)] (X6 1) [2] [0] [] (λ _ _ _=>True) (by kernel_rfl) (by rw [F];decide) ?_ (en rfl ?_ .nil) ?_
  ·exact λ _ _=>trivial
  ·exact Ki rfl rfl
  intro L a7 w8 R B D K S;replace F:=B.Z F;replace A:=B.E A;have s2:=gS a7 2 (K 0 _ rfl);replace O:=Nat.le_trans O D.size;replace M:=D.below0 M;clear B D K R S s1 s5 b3;refine Xj (wp_ret (YW ?_));refine bodyPost_ret (v:=.int .i64 0) (by simp [results,Tryz.results167,go_sem,s2]) A ?_;exact ⟨by rw [show YP r=0 by unfold YP;rw [not_t q6,if_neg (by simp)]],M⟩
 ·obtain ⟨k1,k2,k3,k4⟩:=rok_bd (Zv q6);have hdv:=div_bd (n:=-r.n) (d:=r.d) (by omega) (by omega) k3;refine wp_cond_false (ev (vb s5 q6)) ?_;refine wp_skip (Xj (wp_seq ?_));refine Xe (by kernel_rfl) [6,7,8,9,10,11,12,2] [some (.pointer (some ⟨w.heap.size,0,none⟩)),some (.int .i64 r.n),some (.int .i64 (-r.n)),some (.pointer (some ⟨w.heap.size,1,none⟩)),some (.int .i64 r.d),some (.int .i64 ((-r.n) / r.d)),some (.int .i64 (-((-r.n) / r.d))),some (.int .i64 (-((-r.n) / r.d)))] (X6 8) [6,7,8,9,10,11,12,2] [0,1,2,3,4,5,6,7] [] (λ _ _ _=>True) (by kernel_rfl) (by rw [F];decide) ?_ (en rfl ?_ (en rfl ?_ (en rfl ?_ (en rfl ?_ (en rfl ?_ (en rfl ?_ (en rfl ?_ (en rfl ?_ .nil)))))))) ?_
  ·exact λ _ _=>trivial
  ·intro P I J H _ _ C;simp [go_sem,H.f.g rfl s1];exact (C _ _ H.k rfl trivial)
  ·intro P I J H _ _ C;simp [go_sem,(gS I 6 (H.d 0 rfl rfl)),(b3.k0 H.k).cell];exact (C _ _ H.k rfl trivial)
  ·exact λ P I J H _ _ C=>wp_neg rfl (ev (H.d 1 rfl rfl)) (by omega) (C _ _ H.k rfl trivial)
  ·intro P I J H _ _ C;simp [go_sem,H.f.g rfl s1];exact (C _ _ H.k rfl trivial)
  ·intro P I J H _ _ C;simp [go_sem,(gS I 9 (H.d 3 rfl rfl)),(b3.k0 H.k).cell];exact (C _ _ H.k rfl trivial)
  ·intro P I J H _ _ C;simp [go_sem,(gS I 8 (H.d 2 rfl rfl)),(gS I 10 (H.d 4 rfl rfl))];refine (l02Floor_c (-r.n) r.d J (by omega) (by omega) k3 k4).mono ?_;rintro x wx ⟨rfl,n,rfl⟩;have hb:Below J.heap.size J (J.drewN n):=YK bR n;exact (C _ _ (H.k.call hb) rfl trivial)
  ·exact λ P I J H _ _ C=>wp_neg rfl (ev (H.d 5 rfl rfl)) (by omega) (C _ _ H.k rfl trivial)
  ·exact Kd 6 rfl rfl rfl rfl
  intro L a9 w10 R B D K S;replace F:=B.Z F;replace A:=B.E A;have s2:=gS a9 2 (K 7 _ rfl);replace O:=Nat.le_trans O D.size;replace M:=D.below0 M;clear B D K R S s1 s5 b3;refine Xj (wp_ret ?_);refine bodyPost_ret (v:=.int .i64 (-((-r.n) / r.d))) (by simp [results,Tryz.results167,go_sem,s2]) A ?_;exact ⟨by rw [show YP r = -((-r.n) / r.d) by unfold YP;rw [Zv q6,if_pos (by simp)]],M⟩
end Go.Proofs.YtkjimfapbjdafaaGreat
