/-
 Fractions rounded, clamps, inputs in a span, and the input that is picked: of the program and of the reference.
 Conditions: the numbers are ints of the machine.
-/
import Derived.Test.YtabfdkpdppemaaaGreatAdmDQc
set_option maxHeartbeats 3000000
set_option maxRecDepth 100000
namespace Go.Proofs.YtabfdkpdppemaaaGreat
open Go.RowKit
theorem ceilDiv_c (n d:Int) (w:World) (h1 : -9223372036854775807<=n) (h2:n<=9223372036854775807) (hd:0<d) (hd2:d<=9223372036854775807) :
 Calls Tryz.prog 201 #[.int .i64 n,.int .i64 d] w λ x w'=>x=.returned (.int .i64 (-(-n / d)))/\Below w.heap.size w w':=by
 have hdv:=div_bd (n:=-n) (d:=d) (by omega) (by omega) hd;refine Yw Tryz.func201 rfl (n:=10) Tryz.ntmps201 (by simp) ?_;intro a0 M A ha;have s0:a0.tmps[0]?.getD undef=.int .i64 n:=ha 0 _ rfl;have s1:a0.tmps[1]?.getD undef=.int .i64 d:=ha 1 _ rfl;clear ha;have K:=Below.refl w.heap.size w;have O:=Nat.le_refl w.heap.size;refine wp_seq ?_;refine Xj [4] [some (.int .i64 0)] (Yb 1) [4] [] (λ _ _ _=>True) ?_ (en rfl ?_ .nil) ?_
 ·exact λ _ _=>trivial
 ·exact oACT rfl rfl
 intro L a1 w2 R B D I S;replace M:=B.Z M;replace A:=B.E A;replace s0:=B.G s0;replace s1:=B.G s1;replace O:=Nat.le_trans O D.size;replace K:=D.below0 K;clear B D I R S;refine Xk (wp_seq ?_);refine Xj [5,6,7,8,9,4] [some (.int .i64 n),some (.int .i64 (-n)),some (.int .i64 d),some (.int .i64 ((-n) / d)),some (.int .i64 (-((-n) / d))),some (.int .i64 (-((-n) / d)))] (Yb 6) [5,6,7,8,9,4] [] (λ _ _ _=>True) ?_ (e4 ?_ ?_ ?_ ?_ (e2 ?_ ?_ .nil)) ?_
 ·exact λ _ _=>trivial
 ·exact Zz s0 rfl rfl rfl
 ·exact λ P F J H _ _ C=>KB rfl (ev (H.d 0 rfl rfl)) (by omega) (C _ _ H.k rfl trivial)
 ·exact Zz s1 rfl rfl rfl
 ·intro P F J H _ _ C;simp [go_sem,(gS F 6 (H.d 1 rfl rfl)),(gS F 7 (H.d 2 rfl rfl))];refine (floorDiv_c (-n) d J (by omega) (by omega) hd hd2).mono ?_;rintro x wx ⟨rfl,n,rfl⟩;have hb:Below J.heap.size J (J.drewN n):=ZE bR n;exact (C _ _ (H.k.call hb) rfl trivial)
 ·exact λ P F J H _ _ C=>KB rfl (ev (H.d 3 rfl rfl)) (by omega) (C _ _ H.k rfl trivial)
 ·exact ZT 4 rfl rfl rfl rfl
 intro L a3 w4 R B D I S;replace M:=B.Z M;replace A:=B.E A;have s4:=gS a3 4 (I 5 _ rfl);replace O:=Nat.le_trans O D.size;replace K:=D.below0 K;clear B D I R S s0 s1;refine Xk (wp_ret ?_);refine bodyPost_ret (v:=.int .i64 (-((-n) / d))) (by simp [results,Tryz.results201,go_sem,s4]) A ?_;exact ⟨rfl,K⟩
theorem iRatFloor_c (r:X5) (w:World) (hr:r.In) :
 Calls Tryz.prog 123 #[XO r] w λ x w'=>x=.returned (.int .i64 (Z5 r))/\Below w.heap.size w w':=by
 refine Yw Tryz.func123 rfl (n:=11) Tryz.ntmps123 (by simp) ?_;intro a0 M A ha;have s0:a0.tmps[0]?.getD undef=XO r:=ha 0 _ rfl;clear ha;have K:=Below.refl w.heap.size w;have O:=Nat.le_refl w.heap.size;refine wp_seq ?_;refine Yp [1,2] [.pointer (some ⟨w.heap.size,0,none⟩),.int .i64 0] [some (.cells [.int .i64 r.n,.int .i64 r.d].toArray 36),none] [0,1] [1,2] [0,1] (by kernel_rfl) (by rw [M];decide) (ec ?_ (ec ?_ .nil)) ?_
 ·intro a w' B hs N Q C;simp [go_sem,B.g rfl s0];rw [hs];exact C
 ·intro a w' B hs N Q C;simp [go_sem];exact C
 intro a1 w2 B I hb hO;replace M:=B.size.trans M;replace A:=B.defers.trans A;have s1:a1.tmps[1]?.getD undef=.pointer (some ⟨w.heap.size,0,none⟩):=I 0 (by decide);have b3:Xx w2 w.heap.size 36 [.int .i64 r.n,.int .i64 r.d]:=hO 0 _ rfl;have hG:=b3.lt;replace K:=Xf K hb;have zw2:=Nat.le_trans O hb.size;replace O:=Nat.le_refl w2.heap.size;clear B I hb hO s0;refine Xk (wp_seq (wp_seq ?_));refine Xj [3,4,5] [some (XO r),some (.bool (Xe r)),some (.bool (!(Xe r)))] (Yb 3) [3,4,5] [] (λ _ _ _=>True) ?_ (e2 ?_ ?_ (en rfl ?_ .nil)) ?_
 ·exact λ _ _=>trivial
 ·intro P F J H _ _ C;simp [go_sem,H.f.g rfl s1,(b3.k0 H.k).cell];exact (C _ _ H.k rfl trivial)
 ·intro P F J H _ _ C;simp [go_sem,(gS F 3 (H.d 0 rfl rfl))];refine (Z3 r J hr).mono ?_;rintro x wx ⟨rfl,hb⟩;exact (C _ _ (H.k.call hb) rfl trivial)
 ·exact Ky 1 rfl rfl rfl rfl
 intro L a4 w5 R B D I S;replace M:=B.Z M;replace A:=B.E A;replace s1:=B.G s1;have s5:=gS a4 5 (I 2 _ rfl);replace b3:=b3.k0 D;replace O:=Nat.le_trans O D.size;replace K:=D.below0 K;clear B D I R S;refine Xk ?_;rcases Bool.eq_false_or_eq_true (!(Xe r)) with q6|q6
 ·refine wp_cond_true (ev (vb s5 q6)) ?_;refine wp_seq ?_;refine Xj [2] [some (.int .i64 0)] (Yb 1) [2] [] (λ _ _ _=>True) ?_ (en rfl ?_ .nil) ?_
  ·exact λ _ _=>trivial
  ·exact oACT rfl rfl
  intro L a7 w8 R B D I S;replace M:=B.Z M;replace A:=B.E A;have s2:=gS a7 2 (I 0 _ rfl);replace O:=Nat.le_trans O D.size;replace K:=D.below0 K;clear B D I R S s1 s5 b3;refine Xk (wp_ret (Km ?_));refine bodyPost_ret (v:=.int .i64 0) (by simp [results,Tryz.results123,go_sem,s2]) A ?_;exact ⟨by rw [show Z5 r=0 by unfold Z5;rw [Jy q6,if_neg (by simp)]],K⟩
 ·obtain ⟨k1,k2,k3,k4⟩:=rok_bd (YY q6);refine wp_cond_false (ev (vb s5 q6)) ?_;refine wp_skip (Xk (wp_seq ?_));refine Xj [6,7,8,9,10,2] [some (.pointer (some ⟨w.heap.size,0,none⟩)),some (.int .i64 r.n),some (.pointer (some ⟨w.heap.size,1,none⟩)),some (.int .i64 r.d),some (.int .i64 (r.n / r.d)),some (.int .i64 (r.n / r.d))] (Yb 6) [6,7,8,9,10,2] [] (λ _ _ _=>True) ?_ (e4 ?_ ?_ ?_ ?_ (e2 ?_ ?_ .nil)) ?_
  ·exact λ _ _=>trivial
  ·intro P F J H _ _ C;simp [go_sem,H.f.g rfl s1];exact (C _ _ H.k rfl trivial)
  ·intro P F J H _ _ C;simp [go_sem,(gS F 6 (H.d 0 rfl rfl)),(b3.k0 H.k).cell];exact (C _ _ H.k rfl trivial)
  ·intro P F J H _ _ C;simp [go_sem,H.f.g rfl s1];exact (C _ _ H.k rfl trivial)
  ·intro P F J H _ _ C;simp [go_sem,(gS F 8 (H.d 2 rfl rfl)),(b3.k0 H.k).cell];exact (C _ _ H.k rfl trivial)
  ·intro P F J H _ _ C;simp [go_sem,(gS F 7 (H.d 1 rfl rfl)),(gS F 9 (H.d 3 rfl rfl))];refine (floorDiv_c r.n r.d J k1 k2 k3 k4).mono ?_;rintro x wx ⟨rfl,n,rfl⟩;have hb:Below J.heap.size J (J.drewN n):=ZE bR n;exact (C _ _ (H.k.call hb) rfl trivial)
  ·exact ZT 4 rfl rfl rfl rfl
  intro L a9 w10 R B D I S;replace M:=B.Z M;replace A:=B.E A;have s2:=gS a9 2 (I 5 _ rfl);replace O:=Nat.le_trans O D.size;replace K:=D.below0 K;clear B D I R S s1 s5 b3;refine Xk (wp_ret ?_);refine bodyPost_ret (v:=.int .i64 (r.n / r.d)) (by simp [results,Tryz.results123,go_sem,s2]) A ?_;exact ⟨by rw [show Z5 r=r.n / r.d by unfold Z5;rw [YY q6,if_pos (by simp)]],K⟩
theorem iRatCeil_c (r:X5) (w:World) (hr:r.In) :
 Calls Tryz.prog 122 #[XO r] w λ x w'=>x=.returned (.int .i64 (KU r))/\Below w.heap.size w w':=by
 refine Yw Tryz.func122 rfl (n:=11) Tryz.ntmps122 (by simp) ?_;intro a0 M A ha;have s0:a0.tmps[0]?.getD undef=XO r:=ha 0 _ rfl;clear ha;have K:=Below.refl w.heap.size w;have O:=Nat.le_refl w.heap.size;refine wp_seq ?_;refine Yp [1,2] [.pointer (some ⟨w.heap.size,0,none⟩),.int .i64 0] [some (.cells [.int .i64 r.n,.int .i64 r.d].toArray 36),none] [0,1] [1,2] [0,1] (by kernel_rfl) (by rw [M];decide) (ec ?_ (ec ?_ .nil)) ?_
 ·intro a w' B hs N Q C;simp [go_sem,B.g rfl s0];rw [hs];exact C
 ·intro a w' B hs N Q C;simp [go_sem];exact C
 intro a1 w2 B I hb hO;replace M:=B.size.trans M;replace A:=B.defers.trans A;have s1:a1.tmps[1]?.getD undef=.pointer (some ⟨w.heap.size,0,none⟩):=I 0 (by decide);have b3:Xx w2 w.heap.size 36 [.int .i64 r.n,.int .i64 r.d]:=hO 0 _ rfl;have hG:=b3.lt;replace K:=Xf K hb;have zw2:=Nat.le_trans O hb.size;replace O:=Nat.le_refl w2.heap.size;clear B I hb hO s0;refine Xk (wp_seq (wp_seq ?_));refine Xj [3,4,5] [some (XO r),some (.bool (Xe r)),some (.bool (!(Xe r)))] (Yb 3) [3,4,5] [] (λ _ _ _=>True) ?_ (e2 ?_ ?_ (en rfl ?_ .nil)) ?_
 ·exact λ _ _=>trivial
 ·intro P F J H _ _ C;simp [go_sem,H.f.g rfl s1,(b3.k0 H.k).cell];exact (C _ _ H.k rfl trivial)
 ·intro P F J H _ _ C;simp [go_sem,(gS F 3 (H.d 0 rfl rfl))];refine (Z3 r J hr).mono ?_;rintro x wx ⟨rfl,hb⟩;exact (C _ _ (H.k.call hb) rfl trivial)
 ·exact Ky 1 rfl rfl rfl rfl
 intro L a4 w5 R B D I S;replace M:=B.Z M;replace A:=B.E A;replace s1:=B.G s1;have s5:=gS a4 5 (I 2 _ rfl);replace b3:=b3.k0 D;replace O:=Nat.le_trans O D.size;replace K:=D.below0 K;clear B D I R S;refine Xk ?_;rcases Bool.eq_false_or_eq_true (!(Xe r)) with q6|q6
 ·refine wp_cond_true (ev (vb s5 q6)) ?_;refine wp_seq ?_;refine Xj [2] [some (.int .i64 0)] (Yb 1) [2] [] (λ _ _ _=>True) ?_ (en rfl ?_ .nil) ?_
  ·exact λ _ _=>trivial
  ·exact oACT rfl rfl
  intro L a7 w8 R B D I S;replace M:=B.Z M;replace A:=B.E A;have s2:=gS a7 2 (I 0 _ rfl);replace O:=Nat.le_trans O D.size;replace K:=D.below0 K;clear B D I R S s1 s5 b3;refine Xk (wp_ret (Km ?_));refine bodyPost_ret (v:=.int .i64 0) (by simp [results,Tryz.results122,go_sem,s2]) A ?_;exact ⟨by rw [show KU r=0 by unfold KU;rw [Jy q6,if_neg (by simp)]],K⟩
 ·obtain ⟨k1,k2,k3,k4⟩:=rok_bd (YY q6);have hdv:=div_bd (n:=-r.n) (d:=r.d) (by omega) (by omega) k3;refine wp_cond_false (ev (vb s5 q6)) ?_;refine wp_skip (Xk (wp_seq ?_));refine Xj [6,7,8,9,10,2] [some (.pointer (some ⟨w.heap.size,0,none⟩)),some (.int .i64 r.n),some (.pointer (some ⟨w.heap.size,1,none⟩)),some (.int .i64 r.d),some (.int .i64 (-(-r.n / r.d))),some (.int .i64 (-(-r.n / r.d)))] (Yb 6) [6,7,8,9,10,2] [] (λ _ _ _=>True) ?_ (e4 ?_ ?_ ?_ ?_ (e2 ?_ ?_ .nil)) ?_
  ·exact λ _ _=>trivial
  ·intro P F J H _ _ C;simp [go_sem,H.f.g rfl s1];exact (C _ _ H.k rfl trivial)
  ·intro P F J H _ _ C;simp [go_sem,(gS F 6 (H.d 0 rfl rfl)),(b3.k0 H.k).cell];exact (C _ _ H.k rfl trivial)
  ·intro P F J H _ _ C;simp [go_sem,H.f.g rfl s1];exact (C _ _ H.k rfl trivial)
  ·intro P F J H _ _ C;simp [go_sem,(gS F 8 (H.d 2 rfl rfl)),(b3.k0 H.k).cell];exact (C _ _ H.k rfl trivial)
  ·intro P F J H _ _ C;simp [go_sem,(gS F 7 (H.d 1 rfl rfl)),(gS F 9 (H.d 3 rfl rfl))];refine (ceilDiv_c r.n r.d J k1 k2 k3 k4).mono ?_;rintro x wx ⟨rfl,hb⟩;exact (C _ _ (H.k.call hb) rfl trivial)
  ·exact ZT 4 rfl rfl rfl rfl
  intro L a9 w10 R B D I S;replace M:=B.Z M;replace A:=B.E A;have s2:=gS a9 2 (I 5 _ rfl);replace O:=Nat.le_trans O D.size;replace K:=D.below0 K;clear B D I R S s1 s5 b3;refine Xk (wp_ret ?_);refine bodyPost_ret (v:=.int .i64 (-(-r.n / r.d))) (by simp [results,Tryz.results122,go_sem,s2]) A ?_;exact ⟨by rw [show KU r = -(-r.n / r.d) by unfold KU;rw [YY q6,if_pos (by simp)]],K⟩
end Go.Proofs.YtabfdkpdppemaaaGreat
