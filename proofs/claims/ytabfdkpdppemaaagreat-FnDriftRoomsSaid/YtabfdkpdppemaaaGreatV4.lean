/-
 Fractions rounded, clamps, inputs in a span, and the input that is picked: of the program and of the reference.
 Conditions: the numbers are ints of the machine.
-/
import Derived.Test.YtabfdkpdppemaaaGreatGrUQb
namespace Go.Proofs.YtabfdkpdppemaaaGreat
open Go.RowKit
set_option maxRecDepth 100000 in
set_option maxHeartbeats 3000000 in
theorem ceilDiv_c (n d:Int) (w:World) (h1 : -9223372036854775807<=n) (h2:n<=9223372036854775807) (hd:0<d) (hd2:d<=9223372036854775807) :
 Calls Tryz.prog 201 #[.int .i64 n,.int .i64 d] w λ x w'=>x=.returned (.int .i64 (-(-n / d)))/\Below w.heap.size w w':=by
 have hdv:=div_bd (n:=-n) (d:=d) (by omega) (by omega) hd;refine Ks Tryz.func201 rfl (n:=10) Tryz.ntmps201 (by simp) ?_;intro a0 M A ha;have s0:a0.tmps[0]?.getD undef=.int .i64 n:=ha 0 _ rfl;have s1:a0.tmps[1]?.getD undef=.int .i64 d:=ha 1 _ rfl;clear ha;have I:=Below.refl w.heap.size w;have K:=Nat.le_refl w.heap.size;refine wp_seq ?_;refine Xs [4] [some (.int .i64 0)] (YG 1) [4] [] (λ _ _ _=>True) ?_ (en rfl ?_ .nil) ?_
 ·exact λ _ _=>trivial
 ·exact oACT rfl rfl
 intro L a1 w2 O B C N P;replace M:=B.Z M;replace A:=B.E A;replace s0:=B.G s0;replace s1:=B.G s1;replace K:=Nat.le_trans K C.size;replace I:=C.below0 I;clear B C N O P;refine Xv (wp_seq ?_);refine Xs [5,6,7,8,9,4] [some (.int .i64 n),some (.int .i64 (-n)),some (.int .i64 d),some (.int .i64 ((-n) / d)),some (.int .i64 (-((-n) / d))),some (.int .i64 (-((-n) / d)))] (YG 6) [5,6,7,8,9,4] [] (λ _ _ _=>True) ?_ (e4 ?_ ?_ ?_ ?_ (e2 ?_ ?_ .nil)) ?_
 ·exact λ _ _=>trivial
 ·exact ZN s0 rfl rfl rfl
 ·exact λ Q J D H _ _ F=>K4 rfl (ev (H.d 0 rfl rfl)) (by omega) (F _ _ H.k rfl trivial)
 ·exact ZN s1 rfl rfl rfl
 ·intro Q J D H _ _ F;simp [go_sem,(gS J 6 (H.d 1 rfl rfl)),(gS J 7 (H.d 2 rfl rfl))];refine (floorDiv_c (-n) d D (by omega) (by omega) hd hd2).mono ?_;rintro x wx ⟨rfl,n,rfl⟩;have hb:Below D.heap.size D (D.drewN n):=Yz bR n;exact (F _ _ (H.k.call hb) rfl trivial)
 ·exact λ Q J D H _ _ F=>K4 rfl (ev (H.d 3 rfl rfl)) (by omega) (F _ _ H.k rfl trivial)
 ·exact Jr 4 rfl rfl rfl rfl
 intro L a3 w4 O B C N P;replace M:=B.Z M;replace A:=B.E A;have s4:=gS a3 4 (N 5 _ rfl);replace K:=Nat.le_trans K C.size;replace I:=C.below0 I;clear B C N O P s0 s1;refine Xv (wp_ret ?_);refine bodyPost_ret (v:=.int .i64 (-((-n) / d))) (by simp [results,Tryz.results201,go_sem,s4]) A ?_;exact ⟨rfl,I⟩
end Go.Proofs.YtabfdkpdppemaaaGreat
