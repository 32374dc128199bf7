/-
 For every input FnExactSafeModes returns true: the program's SafeModes and the reference's agree.
 Conditions: none.
-/
import Derived.Test.YtkjimfapbjdafaaGreatModS
import Derived.Test.YtkjimfapbjdafaaGreatGrXd
import Derived.Test.YtkjimfapbjdafaaGreatGrO
import Derived.Test.YtkjimfapbjdafaaGreatGrT
import Derived.Test.YtkjimfapbjdafaaGreatGrF
import Derived.Test.YtkjimfapbjdafaaGreatGrN
namespace Go.Proofs.YtkjimfapbjdafaaGreat
open Go.RowKit Go.ChangeShapes Go.WideShapes Go.ChangeAt Go.Deep
set_option maxRecDepth 100000 in
set_option maxHeartbeats 16000000 in
theorem walkSafeModes (w:World) (r:XN) (r_a:Yr) (hin_r:Za r) (hl_r:List.length r.map≤9223372036854775807∧List.length r.noise≤9223372036854775807∧List.length r.limits≤9223372036854775807) (hs_r:Yo w r r_a) (ms_A:Option Addr) (ms:List ZJ) (ms_c:Nat) (hin_ms:∀ y∈ms,ZJ.In y) (hl_ms:List.length ms≤9223372036854775807) (hs_ms:Sl 2 ZD w ms_A ms) (p:List Half) (p_a:ZR) (hin_p:JA p) (hl_p:List.length p≤9223372036854775807) (hs_p:Zk w p p_a) (s:XJ) (hin_s:s.In) :
 Calls Tryz.prog 3 #[XH r r_a,.slice ms_A ms.length ms_c,.agg #[.slice p_a.A p.length p_a.c],Yz s] w fun e w'=>e=.returned (.bool true)∧Below w.heap.size w w':=by
 have hlr:=sfR_le r ms p s
 refine Y4 Tryz.func3 rfl (n:=123) Tryz.ntmps3 (by simp) ?_
 intro a0 M K ha
 have s0:a0.tmps[0]?.getD undef=XH r r_a:=ha 0 _ rfl;have s1:a0.tmps[1]?.getD undef=.slice ms_A ms.length ms_c:=ha 1 _ rfl;have s2:a0.tmps[2]?.getD undef=.agg #[.slice p_a.A p.length p_a.c]:=ha 2 _ rfl;have s3:a0.tmps[3]?.getD undef=Yz s:=ha 3 _ rfl;clear ha
 have S:=Below.refl w.heap.size w
 have U:=Nat.le_refl w.heap.size
 refine wp_seq ?_
 refine YK [4,6,7,8] [.pointer (some ⟨w.heap.size,0,none⟩),.pointer (some ⟨(w.heap.size+1),0,none⟩),.pointer (some ⟨(w.heap.size+2),0,none⟩),.bool false] [some (.cells (Y6 r r_a).toArray 27),some (.cells [.slice p_a.A p.length p_a.c].toArray 25),some (.cells [.int .i64 s.x,.int .i64 s.y,.int .i64 s.d].toArray 30),none] [0,1,2,3] [4,6,7,8] [0,1,2,3] (by kernel_rfl) (by rw [M];decide) (ec ?_ (ec ?_ (ec ?_ (ec ?_ .nil)))) ?_
 ·intro a w' B hs N Q F;simp [go_sem,B.g rfl s0];rw [hs];exact F
 ·intro a w' B hs N Q F;simp [go_sem,B.g rfl s2];rw [hs];exact F
 ·intro a w' B hs N Q F;simp [go_sem,B.g rfl s3];rw [hs];exact F
 ·intro a w' B hs N Q F;simp [go_sem];exact F
 intro a1 w2 B P hb hO
 replace M:=B.size.trans M;replace K:=B.defers.trans K;replace s1:=B.g rfl s1
 have s4:a1.tmps[4]?.getD undef=.pointer (some ⟨w.heap.size,0,none⟩):=P 0 (by decide)
 have s6:a1.tmps[6]?.getD undef=.pointer (some ⟨(w.heap.size+1),0,none⟩):=P 1 (by decide)
 have s7:a1.tmps[7]?.getD undef=.pointer (some ⟨(w.heap.size+2),0,none⟩):=P 2 (by decide)
 have b3:Xy w2 w.heap.size 27 (Y6 r r_a):=hO 0 _ rfl
 have b4:Xy w2 (w.heap.size+1) 25 [.slice p_a.A p.length p_a.c]:=hO 1 _ rfl
 have b5:Xy w2 (w.heap.size+2) 30 [.int .i64 s.x,.int .i64 s.y,.int .i64 s.d]:=hO 2 _ rfl
 have hG:=b5.lt
 replace S:=Xh S hb;have zw2:=Nat.le_trans U hb.size;replace U:=Nat.le_refl w2.heap.size;clear B P hb hO s0 s2 s3;refine Xj (wp_seq ?_)
 refine Xe (by kernel_rfl) [9] [some (.int .i64 1048576)] (X7 1) [9] [0] [] (fun _ _ _=>True) (by kernel_rfl) (by rw [M];decide) ?_ (en rfl ?_ .nil) ?_
 ·exact fun _ _=>trivial
 ·exact Kk rfl rfl
 intro L a6 w7 T B C P R;replace M:=B.Z M;replace K:=B.E K;replace s1:=B.G s1;replace s4:=B.G s4;replace s6:=B.G s6;replace s7:=B.G s7;have s9:=gS a6 9 (P 0 _ rfl);replace b3:=b3.k0 C;replace b4:=b4.k0 C;replace b5:=b5.k0 C;replace U:=Nat.le_trans U C.size;replace S:=C.below0 S;clear B C P T R;refine Xj (wp_seq ?_)
 rcases Bool.eq_false_or_eq_true (decide (1048576-((Xk r:Nat):Int)<0)) with q8|q8
 ·have I:XI [9] (fun L aa D=>(L 3=false→aa.tmps[9]?.getD undef=.int .i64 1048576)):=by
   intro L aa D w' kk vv hkk hb R
   have x0:=R
   exact (fun h=>(Xb (hkk 9 (by simp)) vv).trans (x0 h))
  refine Xx I (by kernel_rfl) [19,20,21,9] [some (XH r r_a),some (.int .i64 1048576),some (.int .i64 (-1)),some (.int .i64 (-1))] (X7 4) [19,20,21,9] [0,1,2,3] [] (by kernel_rfl) (by rw [M];decide) ?_ (en rfl ?_ (en rfl ?_ (en rfl ?_ (en rfl ?_ .nil)))) ?_
  ·exact fun _ h=>(fun _=>s9)
  ·intro O J D H _ _ F
   simp [go_sem,H.f.g rfl s4,(b3.k0 H.k).cell]
   exact (F _ _ H.k rfl (I O J D _ (some 19) _ (by simp) bR H.x))
  ·intro O J D H _ _ F
   have x0:=H.x
   exact XF rfl (ev (x0 (H.t 3 rfl))) (F _ _ H.k rfl (I O J D _ (some 20) _ (by simp) bR H.x))
  ·intro O J D H _ _ F
   simp [go_sem,(gS J 19 (H.d 0 rfl rfl)),(gS J 20 (H.d 1 rfl rfl))]
   refine (JX r r_a 1048576 D hl_r (by omega) (by omega)).mono ?_
   rintro x wx ⟨rfl,hb⟩
   exact (F _ _ (H.k.call hb) (congrArg (Value.int .i64) (if_pos (Ki q8))) (I O J D _ (some 21) _ (by simp) hb H.x))
  ·intro O J D H _ _ F
   have x0:=H.x
   exact X1 rfl (ev (H.d 2 rfl rfl)) (F _ _ H.k rfl (fun h=>by simp [ZB] at h))
  intro L a9 w10 T B C P R;have x0:=R;replace M:=B.Z M;replace K:=B.E K;replace s1:=B.G s1;replace s4:=B.G s4;replace s6:=B.G s6;replace s7:=B.G s7;have s9:=gS a9 9 (P 3 _ rfl);replace b3:=b3.k0 C;replace b4:=b4.k0 C;replace b5:=b5.k0 C;replace U:=Nat.le_trans U C.size;replace S:=C.below0 S;clear B C P T x0 I;refine Xj (wp_seq (wp_seq ?_))
  refine Xe (by kernel_rfl) [22,23] [some (.int .i64 (-1)),some (.bool true)] (X7 2) [22,23] [0,1] [] (fun _ _ _=>True) (by kernel_rfl) (by rw [M];decide) ?_ (en rfl ?_ (en rfl ?_ .nil)) ?_
  ·exact fun _ _=>trivial
  ·exact YA s9 rfl rfl rfl
  ·exact fun O J D H _ _ F=>Yc rfl (ev (H.d 0 rfl rfl)) rfl rfl rfl (F _ _ H.k rfl trivial)
  intro L a11 w12 T B C P R;replace M:=B.Z M;replace K:=B.E K;replace s1:=B.G s1;replace s4:=B.G s4;replace s6:=B.G s6;replace s7:=B.G s7;replace s9:=B.G s9;have s23:=gS a11 23 (P 1 _ rfl);replace b3:=b3.k0 C;replace b4:=b4.k0 C;replace b5:=b5.k0 C;replace U:=Nat.le_trans U C.size;replace S:=C.below0 S;clear B C P T R;refine Xj ?_
  refine wp_cond_true (ev s23) ?_
  refine wp_seq ?_
  refine Xe (by kernel_rfl) [8] [some (.bool true)] (X7 1) [8] [0] [] (fun _ _ _=>True) (by kernel_rfl) (by rw [M];decide) ?_ (en rfl ?_ .nil) ?_
  ·exact fun _ _=>trivial
  ·exact Kk rfl rfl
  intro L a13 w14 T B C P R;replace M:=B.Z M;replace K:=B.E K;have s8:=gS a13 8 (P 0 _ rfl);replace U:=Nat.le_trans U C.size;replace S:=C.below0 S;clear B C P T R s1 s4 s6 s7 s9 s23 b3 b4 b5;refine Xj (wp_ret (YY ?_))
  refine bodyPost_ret (v:=.bool true) (by simp [results,Tryz.results3,go_sem,s8]) K ?_
  exact ⟨rfl,S⟩
 ·have I:XI [9] (fun L aa D=>(L 3=false→aa.tmps[9]?.getD undef=.int .i64 1048576)):=by
   intro L aa D w' kk vv hkk hb R
   have x0:=R
   exact (fun h=>(Xb (hkk 9 (by simp)) vv).trans (x0 h))
  refine Xx I (by kernel_rfl) [19,20,21,9] [some (XH r r_a),some (.int .i64 1048576),some (.int .i64 (1048576-((Xk r:Nat):Int))),some (.int .i64 (1048576-((Xk r:Nat):Int)))] (X7 4) [19,20,21,9] [0,1,2,3] [] (by kernel_rfl) (by rw [M];decide) ?_ (en rfl ?_ (en rfl ?_ (en rfl ?_ (en rfl ?_ .nil)))) ?_
  ·exact fun _ h=>(fun _=>s9)
  ·intro O J D H _ _ F
   simp [go_sem,H.f.g rfl s4,(b3.k0 H.k).cell]
   exact (F _ _ H.k rfl (I O J D _ (some 19) _ (by simp) bR H.x))
  ·intro O J D H _ _ F
   have x0:=H.x
   exact XF rfl (ev (x0 (H.t 3 rfl))) (F _ _ H.k rfl (I O J D _ (some 20) _ (by simp) bR H.x))
  ·intro O J D H _ _ F
   simp [go_sem,(gS J 19 (H.d 0 rfl rfl)),(gS J 20 (H.d 1 rfl rfl))]
   refine (JX r r_a 1048576 D hl_r (by omega) (by omega)).mono ?_
   rintro x wx ⟨rfl,hb⟩
   exact (F _ _ (H.k.call hb) (congrArg (Value.int .i64) (if_neg (Xg q8))) (I O J D _ (some 21) _ (by simp) hb H.x))
  ·intro O J D H _ _ F
   have x0:=H.x
   exact X1 rfl (ev (H.d 2 rfl rfl)) (F _ _ H.k rfl (fun h=>by simp [ZB] at h))
  intro L a15 w16 T B C P R;have x0:=R;replace M:=B.Z M;replace K:=B.E K;replace s1:=B.G s1;replace s4:=B.G s4;replace s6:=B.G s6;replace s7:=B.G s7;have s9:=gS a15 9 (P 3 _ rfl);replace b3:=b3.k0 C;replace b4:=b4.k0 C;replace b5:=b5.k0 C;replace U:=Nat.le_trans U C.size;replace S:=C.below0 S;clear B C P T x0 I;refine Xj (wp_seq (wp_seq ?_))
  refine Xe (by kernel_rfl) [22,23] [some (.int .i64 (1048576-((Xk r:Nat):Int))),some (.bool (decide (1048576-((Xk r:Nat):Int)<0)))] (X7 2) [22,23] [0,1] [] (fun _ _ _=>True) (by kernel_rfl) (by rw [M];decide) ?_ (en rfl ?_ (en rfl ?_ .nil)) ?_
  ·exact fun _ _=>trivial
  ·exact YA s9 rfl rfl rfl
  ·exact fun O J D H _ _ F=>Yc rfl (ev (H.d 0 rfl rfl)) rfl rfl rfl (F _ _ H.k rfl trivial)
  intro L a17 w18 T B C P R;replace M:=B.Z M;replace K:=B.E K;replace s1:=B.G s1;replace s4:=B.G s4;replace s6:=B.G s6;replace s7:=B.G s7;replace s9:=B.G s9;have s23:=gS a17 23 (P 1 _ rfl);replace b3:=b3.k0 C;replace b4:=b4.k0 C;replace b5:=b5.k0 C;replace U:=Nat.le_trans U C.size;replace S:=C.below0 S;clear B C P T R;refine Xj ?_
  refine wp_cond_false (ev (vb s23 q8)) ?_
  refine wp_skip (Xj (wp_seq ?_))
  rcases Bool.eq_false_or_eq_true (decide (1048576-((Xk r:Nat):Int)-(ms.length:Int)<0)) with q19|q19
  ·have I:XI [9] (fun L aa D=>(L 3=false→aa.tmps[9]?.getD undef=.int .i64 (1048576-((Xk r:Nat):Int)))):=by
    intro L aa D w' kk vv hkk hb R
    have x0:=R
    exact (fun h=>(Xb (hkk 9 (by simp)) vv).trans (x0 h))
   refine Xx I (by kernel_rfl) [24,25,26,9] [some (.slice ms_A ms.length ms_c),some (.int .i64 (1048576-((Xk r:Nat):Int))),some (.int .i64 (-1)),some (.int .i64 (-1))] (X7 4) [24,25,26,9] [0,1,2,3] [] (by kernel_rfl) (by rw [M];decide) ?_ (en rfl ?_ (en rfl ?_ (en rfl ?_ (en rfl ?_ .nil)))) ?_
   ·exact fun _ h=>(fun _=>s9)
   ·exact fun O J D H _ _ F=>XF rfl (ev (H.f.g rfl s1)) (F _ _ H.k rfl (I O J D _ (some 24) _ (by simp) bR H.x))
   ·intro O J D H _ _ F
    have x0:=H.x
    exact XF rfl (ev (x0 (H.t 3 rfl))) (F _ _ H.k rfl (I O J D _ (some 25) _ (by simp) bR H.x))
   ·intro O J D H _ _ F
    simp [go_sem,(gS J 24 (H.d 0 rfl rfl)),(gS J 25 (H.d 1 rfl rfl))]
    refine (szModeS_c ms_A ms.length ms_c (1048576-((Xk r:Nat):Int)) D hl_ms (by have:=Xg q8;omega) (by have:=Xg q8;omega)).mono ?_
    rintro x wx ⟨rfl,rfl⟩
    exact (F _ _ H.k (congrArg (Value.int .i64) (if_pos (Ki q19))) (I O J D _ (some 26) _ (by simp) bR H.x))
   ·intro O J D H _ _ F
    have x0:=H.x
    exact X1 rfl (ev (H.d 2 rfl rfl)) (F _ _ H.k rfl (fun h=>by simp [ZB] at h))
   intro L a20 w21 T B C P R;have x0:=R;replace M:=B.Z M;replace K:=B.E K;replace s1:=B.G s1;replace s4:=B.G s4;replace s6:=B.G s6;replace s7:=B.G s7;have s9:=gS a20 9 (P 3 _ rfl);replace b3:=b3.k0 C;replace b4:=b4.k0 C;replace b5:=b5.k0 C;replace U:=Nat.le_trans U C.size;replace S:=C.below0 S;clear B C P T x0 I s23;refine Xj (wp_seq (wp_seq ?_))
   refine Xe (by kernel_rfl) [27,28] [some (.int .i64 (-1)),some (.bool true)] (X7 2) [27,28] [0,1] [] (fun _ _ _=>True) (by kernel_rfl) (by rw [M];decide) ?_ (en rfl ?_ (en rfl ?_ .nil)) ?_
   ·exact fun _ _=>trivial
   ·exact YA s9 rfl rfl rfl
   ·exact fun O J D H _ _ F=>Yc rfl (ev (H.d 0 rfl rfl)) rfl rfl rfl (F _ _ H.k rfl trivial)
   intro L a22 w23 T B C P R;replace M:=B.Z M;replace K:=B.E K;replace s1:=B.G s1;replace s4:=B.G s4;replace s6:=B.G s6;replace s7:=B.G s7;replace s9:=B.G s9;have s28:=gS a22 28 (P 1 _ rfl);replace b3:=b3.k0 C;replace b4:=b4.k0 C;replace b5:=b5.k0 C;replace U:=Nat.le_trans U C.size;replace S:=C.below0 S;clear B C P T R;refine Xj ?_
   refine wp_cond_true (ev s28) ?_
   refine wp_seq ?_
   refine Xe (by kernel_rfl) [8] [some (.bool true)] (X7 1) [8] [0] [] (fun _ _ _=>True) (by kernel_rfl) (by rw [M];decide) ?_ (en rfl ?_ .nil) ?_
   ·exact fun _ _=>trivial
   ·exact Kk rfl rfl
   intro L a24 w25 T B C P R;replace M:=B.Z M;replace K:=B.E K;have s8:=gS a24 8 (P 0 _ rfl);replace U:=Nat.le_trans U C.size;replace S:=C.below0 S;clear B C P T R s1 s4 s6 s7 s9 s28 b3 b4 b5;refine Xj (wp_ret (YY ?_))
   refine bodyPost_ret (v:=.bool true) (by simp [results,Tryz.results3,go_sem,s8]) K ?_
   exact ⟨rfl,S⟩
  ·have I:XI [9] (fun L aa D=>(L 3=false→aa.tmps[9]?.getD undef=.int .i64 (1048576-((Xk r:Nat):Int)))):=by
    intro L aa D w' kk vv hkk hb R
    have x0:=R
    exact (fun h=>(Xb (hkk 9 (by simp)) vv).trans (x0 h))
   refine Xx I (by kernel_rfl) [24,25,26,9] [some (.slice ms_A ms.length ms_c),some (.int .i64 (1048576-((Xk r:Nat):Int))),some (.int .i64 (1048576-((Xk r:Nat):Int)-(ms.length:Int))),some (.int .i64 (1048576-((Xk r:Nat):Int)-(ms.length:Int)))] (X7 4) [24,25,26,9] [0,1,2,3] [] (by kernel_rfl) (by rw [M];decide) ?_ (en rfl ?_ (en rfl ?_ (en rfl ?_ (en rfl ?_ .nil)))) ?_
   ·exact fun _ h=>(fun _=>s9)
   ·exact fun O J D H _ _ F=>XF rfl (ev (H.f.g rfl s1)) (F _ _ H.k rfl (I O J D _ (some 24) _ (by simp) bR H.x))
   ·intro O J D H _ _ F
    have x0:=H.x
    exact XF rfl (ev (x0 (H.t 3 rfl))) (F _ _ H.k rfl (I O J D _ (some 25) _ (by simp) bR H.x))
   ·intro O J D H _ _ F
    simp [go_sem,(gS J 24 (H.d 0 rfl rfl)),(gS J 25 (H.d 1 rfl rfl))]
    refine (szModeS_c ms_A ms.length ms_c (1048576-((Xk r:Nat):Int)) D hl_ms (by have:=Xg q8;omega) (by have:=Xg q8;omega)).mono ?_
    rintro x wx ⟨rfl,rfl⟩
    exact (F _ _ H.k (congrArg (Value.int .i64) (if_neg (Xg q19))) (I O J D _ (some 26) _ (by simp) bR H.x))
   ·intro O J D H _ _ F
    have x0:=H.x
    exact X1 rfl (ev (H.d 2 rfl rfl)) (F _ _ H.k rfl (fun h=>by simp [ZB] at h))
   intro L a26 w27 T B C P R;have x0:=R;replace M:=B.Z M;replace K:=B.E K;replace s1:=B.G s1;replace s4:=B.G s4;replace s6:=B.G s6;replace s7:=B.G s7;have s9:=gS a26 9 (P 3 _ rfl);replace b3:=b3.k0 C;replace b4:=b4.k0 C;replace b5:=b5.k0 C;replace U:=Nat.le_trans U C.size;replace S:=C.below0 S;clear B C P T x0 I s23;refine Xj (wp_seq (wp_seq ?_))
   refine Xe (by kernel_rfl) [27,28] [some (.int .i64 (1048576-((Xk r:Nat):Int)-(ms.length:Int))),some (.bool (decide (1048576-((Xk r:Nat):Int)-(ms.length:Int)<0)))] (X7 2) [27,28] [0,1] [] (fun _ _ _=>True) (by kernel_rfl) (by rw [M];decide) ?_ (en rfl ?_ (en rfl ?_ .nil)) ?_
   ·exact fun _ _=>trivial
   ·exact YA s9 rfl rfl rfl
   ·exact fun O J D H _ _ F=>Yc rfl (ev (H.d 0 rfl rfl)) rfl rfl rfl (F _ _ H.k rfl trivial)
   intro L a28 w29 T B C P R;replace M:=B.Z M;replace K:=B.E K;replace s1:=B.G s1;replace s4:=B.G s4;replace s6:=B.G s6;replace s7:=B.G s7;replace s9:=B.G s9;have s28:=gS a28 28 (P 1 _ rfl);replace b3:=b3.k0 C;replace b4:=b4.k0 C;replace b5:=b5.k0 C;replace U:=Nat.le_trans U C.size;replace S:=C.below0 S;clear B C P T R;refine Xj ?_
   refine wp_cond_false (ev (vb s28 q19)) ?_
   refine wp_skip (Xj (wp_seq ?_))
   rcases Bool.eq_false_or_eq_true (decide (1048576-((Xk r:Nat):Int)-(ms.length:Int)-((Xf p:Nat):Int)<0)) with q30|q30
   ·have I:XI [9] (fun L aa D=>(L 3=false→aa.tmps[9]?.getD undef=.int .i64 (1048576-((Xk r:Nat):Int)-(ms.length:Int)))):=by
     intro L aa D w' kk vv hkk hb R
     have x0:=R
     exact (fun h=>(Xb (hkk 9 (by simp)) vv).trans (x0 h))
    refine Xx I (by kernel_rfl) [29,30,31,9] [some (.agg #[.slice p_a.A p.length p_a.c]),some (.int .i64 (1048576-((Xk r:Nat):Int)-(ms.length:Int))),some (.int .i64 (-1)),some (.int .i64 (-1))] (X7 4) [29,30,31,9] [0,1,2,3] [] (by kernel_rfl) (by rw [M];decide) ?_ (en rfl ?_ (en rfl ?_ (en rfl ?_ (en rfl ?_ .nil)))) ?_
    ·exact fun _ h=>(fun _=>s9)
    ·intro O J D H _ _ F
     simp [go_sem,H.f.g rfl s6,(b4.k0 H.k).cell]
     exact (F _ _ H.k rfl (I O J D _ (some 29) _ (by simp) bR H.x))
    ·intro O J D H _ _ F
     have x0:=H.x
     exact XF rfl (ev (x0 (H.t 3 rfl))) (F _ _ H.k rfl (I O J D _ (some 30) _ (by simp) bR H.x))
    ·intro O J D H _ _ F
     simp [go_sem,(gS J 29 (H.d 0 rfl rfl)),(gS J 30 (H.d 1 rfl rfl))]
     refine (ZS p p_a (1048576-((Xk r:Nat):Int)-(ms.length:Int)) D hl_p (by have:=Xg q8;have:=Xg q19;omega) (by have:=Xg q8;have:=Xg q19;omega)).mono ?_
     rintro x wx ⟨rfl,hb⟩
     exact (F _ _ (H.k.call hb) (congrArg (Value.int .i64) (if_pos (Ki q30))) (I O J D _ (some 31) _ (by simp) hb H.x))
    ·intro O J D H _ _ F
     have x0:=H.x
     exact X1 rfl (ev (H.d 2 rfl rfl)) (F _ _ H.k rfl (fun h=>by simp [ZB] at h))
    intro L a31 w32 T B C P R;have x0:=R;replace M:=B.Z M;replace K:=B.E K;replace s1:=B.G s1;replace s4:=B.G s4;replace s6:=B.G s6;replace s7:=B.G s7;have s9:=gS a31 9 (P 3 _ rfl);replace b3:=b3.k0 C;replace b4:=b4.k0 C;replace b5:=b5.k0 C;replace U:=Nat.le_trans U C.size;replace S:=C.below0 S;clear B C P T x0 I s28;refine Xj (wp_seq (wp_seq ?_))
    refine Xe (by kernel_rfl) [32,33] [some (.int .i64 (-1)),some (.bool true)] (X7 2) [32,33] [0,1] [] (fun _ _ _=>True) (by kernel_rfl) (by rw [M];decide) ?_ (en rfl ?_ (en rfl ?_ .nil)) ?_
    ·exact fun _ _=>trivial
    ·exact YA s9 rfl rfl rfl
    ·exact fun O J D H _ _ F=>Yc rfl (ev (H.d 0 rfl rfl)) rfl rfl rfl (F _ _ H.k rfl trivial)
    intro L a33 w34 T B C P R;replace M:=B.Z M;replace K:=B.E K;replace s1:=B.G s1;replace s4:=B.G s4;replace s6:=B.G s6;replace s7:=B.G s7;have s33:=gS a33 33 (P 1 _ rfl);replace b3:=b3.k0 C;replace b4:=b4.k0 C;replace b5:=b5.k0 C;replace U:=Nat.le_trans U C.size;replace S:=C.below0 S;clear B C P T R s9;refine Xj ?_
    refine wp_cond_true (ev s33) ?_
    refine wp_seq ?_
    refine Xe (by kernel_rfl) [8] [some (.bool true)] (X7 1) [8] [0] [] (fun _ _ _=>True) (by kernel_rfl) (by rw [M];decide) ?_ (en rfl ?_ .nil) ?_
    ·exact fun _ _=>trivial
    ·exact Kk rfl rfl
    intro L a35 w36 T B C P R;replace M:=B.Z M;replace K:=B.E K;have s8:=gS a35 8 (P 0 _ rfl);replace U:=Nat.le_trans U C.size;replace S:=C.below0 S;clear B C P T R s1 s4 s6 s7 s33 b3 b4 b5;refine Xj (wp_ret (YY ?_))
    refine bodyPost_ret (v:=.bool true) (by simp [results,Tryz.results3,go_sem,s8]) K ?_
    exact ⟨rfl,S⟩
   ·have I:XI [9] (fun L aa D=>(L 3=false→aa.tmps[9]?.getD undef=.int .i64 (1048576-((Xk r:Nat):Int)-(ms.length:Int)))):=by
     intro L aa D w' kk vv hkk hb R
     have x0:=R
     exact (fun h=>(Xb (hkk 9 (by simp)) vv).trans (x0 h))
    refine Xx I (by kernel_rfl) [29,30,31,9] [some (.agg #[.slice p_a.A p.length p_a.c]),some (.int .i64 (1048576-((Xk r:Nat):Int)-(ms.length:Int))),some (.int .i64 (1048576-((Xk r:Nat):Int)-(ms.length:Int)-((Xf p:Nat):Int))),some (.int .i64 (1048576-((Xk r:Nat):Int)-(ms.length:Int)-((Xf p:Nat):Int)))] (X7 4) [29,30,31,9] [0,1,2,3] [] (by kernel_rfl) (by rw [M];decide) ?_ (en rfl ?_ (en rfl ?_ (en rfl ?_ (en rfl ?_ .nil)))) ?_
    ·exact fun _ h=>(fun _=>s9)
    ·intro O J D H _ _ F
     simp [go_sem,H.f.g rfl s6,(b4.k0 H.k).cell]
     exact (F _ _ H.k rfl (I O J D _ (some 29) _ (by simp) bR H.x))
    ·intro O J D H _ _ F
     have x0:=H.x
     exact XF rfl (ev (x0 (H.t 3 rfl))) (F _ _ H.k rfl (I O J D _ (some 30) _ (by simp) bR H.x))
    ·intro O J D H _ _ F
     simp [go_sem,(gS J 29 (H.d 0 rfl rfl)),(gS J 30 (H.d 1 rfl rfl))]
     refine (ZS p p_a (1048576-((Xk r:Nat):Int)-(ms.length:Int)) D hl_p (by have:=Xg q8;have:=Xg q19;omega) (by have:=Xg q8;have:=Xg q19;omega)).mono ?_
     rintro x wx ⟨rfl,hb⟩
     exact (F _ _ (H.k.call hb) (congrArg (Value.int .i64) (if_neg (Xg q30))) (I O J D _ (some 31) _ (by simp) hb H.x))
    ·intro O J D H _ _ F
     have x0:=H.x
     exact X1 rfl (ev (H.d 2 rfl rfl)) (F _ _ H.k rfl (fun h=>by simp [ZB] at h))
    intro L a37 w38 T B C P R;have x0:=R;replace M:=B.Z M;replace K:=B.E K;replace s1:=B.G s1;replace s4:=B.G s4;replace s6:=B.G s6;replace s7:=B.G s7;have s9:=gS a37 9 (P 3 _ rfl);replace b3:=b3.k0 C;replace b4:=b4.k0 C;replace b5:=b5.k0 C;replace U:=Nat.le_trans U C.size;replace S:=C.below0 S;clear B C P T x0 I s28;refine Xj (wp_seq (wp_seq ?_))
    refine Xe (by kernel_rfl) [32,33] [some (.int .i64 (1048576-((Xk r:Nat):Int)-(ms.length:Int)-((Xf p:Nat):Int))),some (.bool (decide (1048576-((Xk r:Nat):Int)-(ms.length:Int)-((Xf p:Nat):Int)<0)))] (X7 2) [32,33] [0,1] [] (fun _ _ _=>True) (by kernel_rfl) (by rw [M];decide) ?_ (en rfl ?_ (en rfl ?_ .nil)) ?_
    ·exact fun _ _=>trivial
    ·exact YA s9 rfl rfl rfl
    ·exact fun O J D H _ _ F=>Yc rfl (ev (H.d 0 rfl rfl)) rfl rfl rfl (F _ _ H.k rfl trivial)
    intro L a39 w40 T B C P R;replace M:=B.Z M;replace K:=B.E K;replace s1:=B.G s1;replace s4:=B.G s4;replace s6:=B.G s6;replace s7:=B.G s7;have s33:=gS a39 33 (P 1 _ rfl);replace b3:=b3.k0 C;replace b4:=b4.k0 C;replace b5:=b5.k0 C;replace U:=Nat.le_trans U C.size;replace S:=C.below0 S;clear B C P T R s9;refine Xj ?_
    refine wp_cond_false (ev (vb s33 q30)) ?_
    refine wp_skip (Xj (wp_seq ?_))
    have I:XI [10,35,37,39,42] (fun L aa D=>(L 1=true→(fun D v=>∃ m1,v=XH r m1∧X0 D w40.heap.size r m1) D (aa.tmps[35]?.getD undef))∧(L 3=true→(fun D v=>∃ A2 c2,v=.slice A2 ms.length c2∧XY 132 2 ZD D w40.heap.size (.slice A2 (ms).length c2) ms) D (aa.tmps[37]?.getD undef))∧(L 5=true→(fun D v=>∃ m3,v=.agg #[.slice m3.A p.length m3.c]∧XL D w40.heap.size p m3) D (aa.tmps[39]?.getD undef))∧(L 8=true→(fun D v=>∃ A4 c4,v=.slice A4 ((Ji r ms p s).length) c4∧XY 3 1 YP D w40.heap.size (.slice A4 (Ji r ms p s).length c4) (Ji r ms p s)) D (aa.tmps[42]?.getD undef))∧(L 9=true→(fun D v=>∃ A4 c4,v=.slice A4 ((Ji r ms p s).length) c4∧XY 3 1 YP D w40.heap.size (.slice A4 (Ji r ms p s).length c4) (Ji r ms p s)) D (aa.tmps[10]?.getD undef))):=by
     intro L aa D w' kk vv hkk hb R
     obtain ⟨x0,x1,x2,x3,x4⟩:=R
     exact ⟨(fun h=>by rw [Xb (hkk 35 (by simp))];obtain ⟨m1',e,f1'⟩:=x0 h;exact ⟨m1',e,f1'.below hb Xu⟩),(fun h=>by rw [Xb (hkk 37 (by simp))];obtain ⟨A2',c2',e,f2'⟩:=x1 h;exact ⟨A2',c2',e,f2'.below hb Xu⟩),(fun h=>by rw [Xb (hkk 39 (by simp))];obtain ⟨m3',e,f3'⟩:=x2 h;exact ⟨m3',e,f3'.below hb Xu⟩),(fun h=>by rw [Xb (hkk 42 (by simp))];obtain ⟨A4',c4',e,f4'⟩:=x3 h;exact ⟨A4',c4',e,f4'.below hb Xu⟩),(fun h=>by rw [Xb (hkk 10 (by simp))];obtain ⟨A4',c4',e,f4'⟩:=x4 h;exact ⟨A4',c4',e,f4'.below hb Xu⟩)⟩
    refine Xx I (by kernel_rfl) [34,35,36,37,38,39,40,41,42,10] [some (XH r r_a),none,some (.slice ms_A ms.length ms_c),none,some (.agg #[.slice p_a.A p.length p_a.c]),none,some (Yz s),some (Yz s),none,none] ([[],[0],[],[0,1,2],[],[0,1,2,3,4],[],[0,1,2,3,4,5,6],[0,1,2,3,4,5,6,7],[0,1,2,3,4,5,6,7,8]]) [34,35,36,37,38,39,40,41,42,10] [0,1,2,3,4,5,6,7,8,9] [] (by kernel_rfl) (by rw [M];decide) ?_ (en rfl ?_ (en rfl ?_ (en rfl ?_ (en rfl ?_ (en rfl ?_ (en rfl ?_ (en rfl ?_ (en rfl ?_ (en rfl ?_ (en rfl ?_ .nil)))))))))) ?_
    ·exact fun _ h=>⟨(fun h=>by cases h),(fun h=>by cases h),(fun h=>by cases h),(fun h=>by cases h),(fun h=>by cases h)⟩
    ·intro O J D H _ _ F
     simp [go_sem,H.f.g rfl s4,(b3.k0 H.k).cell]
     exact (F _ _ H.k rfl (I.q rfl H.x))
    ·intro O J D H _ _ F
     obtain ⟨x0,x1,x2,x3,x4⟩:=H.x
     simp [go_sem,(gS J 34 (H.d 0 rfl rfl))]
     have hBi:=H.k.below0 S
     refine (KE r r_a D (by have:=Xg q8;have:=Xg q19;have:=Xg q30;(try unfold Xf at *);omega) (hs_r.below hBi)).mono ?_
     rintro x wx ⟨m1,rfl,f0,hb⟩
     have f1:=f0.mono H.k.size
     exact (F _ _ (H.k.call hb) trivial ⟨(fun _=>by rw [Xc (H.f.lt (by rw [M];decide))];exact ⟨m1,rfl,f1⟩),(fun h=>by rw [Xb (by decide)];obtain ⟨A2',c2',e,f2'⟩:=x1 h;exact ⟨A2',c2',e,f2'.below hb Xu⟩),(fun h=>by rw [Xb (by decide)];obtain ⟨m3',e,f3'⟩:=x2 h;exact ⟨m3',e,f3'.below hb Xu⟩),(fun h=>by rw [Xb (by decide)];obtain ⟨A4',c4',e,f4'⟩:=x3 h;exact ⟨A4',c4',e,f4'.below hb Xu⟩),(fun h=>by rw [Xb (by decide)];obtain ⟨A4',c4',e,f4'⟩:=x4 h;exact ⟨A4',c4',e,f4'.below hb Xu⟩)⟩)
    ·exact Kn s1 rfl rfl rfl fun _ _ _ _=>I.q rfl
    ·intro O J D H _ _ F
     obtain ⟨x0,x1,x2,x3,x4⟩:=H.x
     simp [go_sem,(gS J 36 (H.d 2 rfl rfl))]
     have hBi:=H.k.below0 S
     refine (JG ms_A ms ms_c D (by have:=Xg q8;have:=Xg q19;have:=Xg q30;(try unfold Xf at *);omega) (hs_ms.below hBi)).mono ?_
     rintro x wx ⟨_,rfl,⟨A2,c2,rfl,f0⟩,hb⟩
     have f2:=XY.mono (show XY 132 2 ZD wx D.heap.size (.slice A2 (ms).length c2) ms from ⟨_,_,rfl,f0⟩) H.k.size
     exact (F _ _ (H.k.call hb) trivial ⟨(fun h=>by rw [Xb (by decide)];obtain ⟨m1',e,f1'⟩:=x0 h;exact ⟨m1',e,f1'.below hb Xu⟩),(fun _=>by rw [Xc (H.f.lt (by rw [M];decide))];exact ⟨A2,c2,rfl,f2⟩),(fun h=>by rw [Xb (by decide)];obtain ⟨m3',e,f3'⟩:=x2 h;exact ⟨m3',e,f3'.below hb Xu⟩),(fun h=>by rw [Xb (by decide)];obtain ⟨A4',c4',e,f4'⟩:=x3 h;exact ⟨A4',c4',e,f4'.below hb Xu⟩),(fun h=>by rw [Xb (by decide)];obtain ⟨A4',c4',e,f4'⟩:=x4 h;exact ⟨A4',c4',e,f4'.below hb Xu⟩)⟩)
    ·intro O J D H _ _ F
     simp [go_sem,H.f.g rfl s6,(b4.k0 H.k).cell]
     exact (F _ _ H.k rfl (I.q rfl H.x))
    ·intro O J D H _ _ F
     obtain ⟨x0,x1,x2,x3,x4⟩:=H.x
     simp [go_sem,(gS J 38 (H.d 4 rfl rfl))]
     have hBi:=H.k.below0 S
     refine (Zw p p_a D (by have:=Xg q8;have:=Xg q19;have:=Xg q30;(try unfold Xf at *);omega) ⟨(hs_p.halves.below hBi)⟩).mono ?_
     rintro x wx ⟨m3,rfl,f0,hb⟩
     have f3:=f0.mono H.k.size
     exact (F _ _ (H.k.call hb) trivial ⟨(fun h=>by rw [Xb (by decide)];obtain ⟨m1',e,f1'⟩:=x0 h;exact ⟨m1',e,f1'.below hb Xu⟩),(fun h=>by rw [Xb (by decide)];obtain ⟨A2',c2',e,f2'⟩:=x1 h;exact ⟨A2',c2',e,f2'.below hb Xu⟩),(fun _=>by rw [Xc (H.f.lt (by rw [M];decide))];exact ⟨m3,rfl,f3⟩),(fun h=>by rw [Xb (by decide)];obtain ⟨A4',c4',e,f4'⟩:=x3 h;exact ⟨A4',c4',e,f4'.below hb Xu⟩),(fun h=>by rw [Xb (by decide)];obtain ⟨A4',c4',e,f4'⟩:=x4 h;exact ⟨A4',c4',e,f4'.below hb Xu⟩)⟩)
    ·intro O J D H _ _ F
     simp [go_sem,H.f.g rfl s7,(b5.k0 H.k).cell]
     exact (F _ _ H.k rfl (I.q rfl H.x))
    ·intro O J D H _ _ F
     simp [go_sem,(gS J 40 (H.d 6 rfl rfl))]
     refine (toSpot_c s D).mono ?_
     rintro x wx ⟨rfl,hb⟩
     exact (F _ _ (H.k.call hb) rfl (I.b rfl hb H.x))
    ·intro O J D H _ _ F
     obtain ⟨x0,x1,x2,x3,x4⟩:=H.x
     obtain ⟨m1,ee1,f1⟩:=x0 (H.r 1 rfl)
     obtain ⟨A2,c2,ee3,f2⟩:=x1 (H.r 3 rfl)
     obtain ⟨m3,ee5,f3⟩:=x2 (H.r 5 rfl)
     simp [go_sem,ee1,ee3,ee5,(gS J 41 (H.d 7 rfl rfl))]
     refine (sSafe_c r ms p s m1 ⟨A2,c2⟩ m3 D (by have:=Xg q8;have:=Xg q19;have:=Xg q30;(try unfold Xf at *);omega) hin_r hin_ms f1.sl f1.nil (by have:=Xg q8;have:=Xg q19;have:=Xg q30;(try unfold Xf at *);omega) hin_p.halves (by have:=Xg q8;have:=Xg q19;have:=Xg q30;(try unfold Xf at *);omega) (f2.out Kl) (f3.halves.out Xz) f3.halves.nilcap hin_s).mono ?_
     rintro x wx ⟨_,rfl,⟨A4,c4,rfl,f0⟩,hb⟩
     have f4:=XY.mono (show XY 3 1 YP wx D.heap.size (.slice A4 (Ji r ms p s).length c4) (Ji r ms p s) from ⟨_,_,rfl,f0⟩) H.k.size
     exact (F _ _ (H.k.call hb) trivial ⟨(fun h=>by rw [Xb (by decide)];obtain ⟨m1',e,f1'⟩:=x0 h;exact ⟨m1',e,f1'.below hb Xu⟩),(fun h=>by rw [Xb (by decide)];obtain ⟨A2',c2',e,f2'⟩:=x1 h;exact ⟨A2',c2',e,f2'.below hb Xu⟩),(fun h=>by rw [Xb (by decide)];obtain ⟨m3',e,f3'⟩:=x2 h;exact ⟨m3',e,f3'.below hb Xu⟩),(fun _=>by rw [Xc (H.f.lt (by rw [M];decide))];exact ⟨A4,c4,rfl,f4⟩),(fun h=>by rw [Xb (by decide)];obtain ⟨A4',c4',e,f4'⟩:=x4 h;exact ⟨A4',c4',e,f4'.below hb Xu⟩)⟩)
    ·intro O J D H _ _ F
     obtain ⟨x0,x1,x2,x3,x4⟩:=H.x
     obtain ⟨A4,c4,ee8,f4⟩:=x3 (H.r 8 rfl)
     exact X1 rfl (ev ee8) (F _ _ H.k trivial ⟨(fun h=>by rw [Xb (by decide)];obtain ⟨m1',e,f1'⟩:=x0 h;exact ⟨m1',e,f1'.below bR Xu⟩),(fun h=>by rw [Xb (by decide)];obtain ⟨A2',c2',e,f2'⟩:=x1 h;exact ⟨A2',c2',e,f2'.below bR Xu⟩),(fun h=>by rw [Xb (by decide)];obtain ⟨m3',e,f3'⟩:=x2 h;exact ⟨m3',e,f3'.below bR Xu⟩),(fun h=>by rw [Xb (by decide)];obtain ⟨A4',c4',e,f4'⟩:=x3 h;exact ⟨A4',c4',e,f4'.below bR Xu⟩),(fun _=>by rw [Xc (H.f.lt (by rw [M];decide))];exact ⟨A4,c4,rfl,f4⟩)⟩)
    intro L a41 w42 T B C P R
    obtain ⟨x0,x1,x2,x3,x4⟩:=R
    replace M:=B.Z M;replace K:=B.E K;replace s1:=B.G s1;replace s4:=B.G s4;replace s6:=B.G s6;replace s7:=B.G s7;replace b3:=b3.k0 C;replace b4:=b4.k0 C;replace b5:=b5.k0 C
    obtain ⟨A4,c4,s10,N4⟩:=x4 (T 9 (by decide))
    have BL4:BlkL w40.heap.size w42.heap.size [⟨A4,c4⟩]:=N4.blkL;have zw40:=U;have zw42:=C.size;replace U:=Nat.le_refl w42.heap.size;replace S:=C.below0 S;clear B C P T x0 x1 x2 x3 x4 I s33;refine Xj (wp_seq ?_)
    refine Xe (by kernel_rfl) [43,44,11,0] [some (XH r r_a),none,none,none] (X7 4) [43,44,11] [0,1,2,3] [] (fun L aa D=>(L 1=true→(fun D v=>∃ m5,v=XH r m5∧X0 D w42.heap.size r m5) D (aa.tmps[44]?.getD undef))∧(L 2=true→Ye w42 aa D 11 39 [.slice none 0 0,.int .i64 0,.int .i64 0,.int .i64 0,.int .i64 0,.int .i64 0,.slice none 0 0,.slice none 0 0] (L 3) (fun D vs=>∃ m5,vs=(Y6 r m5)∧X0 D w42.heap.size r m5))) (by kernel_rfl) (by rw [M];decide) ?_ (en rfl ?_ (en rfl ?_ (en rfl ?_ (en rfl ?_ .nil)))) ?_
    ·exact fun _ h=>⟨(fun h=>by cases h),(fun h=>by cases h)⟩
    ·intro O J D H _ _ F
     simp [go_sem,H.f.g rfl s4,(b3.k0 H.k).cell]
     exact (F _ _ H.k rfl ⟨(fun h=>by rw [Xb (by decide)];obtain ⟨m5',e,f5'⟩:=H.x.1 h;exact ⟨m5',e,f5'.below bR Xu⟩),(fun h=>((H.x.2 h).bel bR (fun _ ⟨m5',e,f5'⟩=>⟨m5',e,f5'.below bR Xu⟩)).put (by decide) _)⟩)
    ·intro O J D H _ _ F
     obtain ⟨x0,x1⟩:=H.x
     simp [go_sem,(gS J 43 (H.d 0 rfl rfl))]
     have hBi:=H.k.below0 S
     refine (KE r r_a D (by have:=Xg q8;have:=Xg q19;have:=Xg q30;(try unfold Xf at *);omega) (hs_r.below hBi)).mono ?_
     rintro x wx ⟨m5,rfl,f0,hb⟩
     have f5:=f0.mono H.k.size
     exact (F _ _ (H.k.call hb) trivial ⟨(fun _=>by rw [Xc (H.f.lt (by rw [M];decide))];exact ⟨m5,rfl,f5⟩),(fun h=>((x1 h).bel hb (fun _ ⟨m5',e,f5'⟩=>⟨m5',e,f5'.below hb Xu⟩)).put (by decide) _)⟩)
    ·intro O J D H _ _ F
     obtain ⟨x0,x1⟩:=H.x
     simp [go_sem]
     exact F _ _ (H.k.alloc _) trivial ⟨(fun h=>by rw [Xb (by decide)];obtain ⟨m5',e,f5'⟩:=x0 h;exact ⟨m5',e,f5'.below (Xm bR _) Xu⟩),(fun _=>by rw [show ZB O 2 3=false from H.t 3 rfl];exact Ye.new (s:=11) (H.f.lt (by rw [M];decide)) H.k.size [.slice none 0 0,.int .i64 0,.int .i64 0,.int .i64 0,.int .i64 0,.int .i64 0,.slice none 0 0,.slice none 0 0])⟩
    ·intro O J D H _ _ F
     obtain ⟨x0,x1⟩:=H.x
     obtain ⟨m5,ee1,f5⟩:=x0 (H.r 1 rfl)
     obtain ⟨g,eg,hg,y,_⟩:=x1 (H.r 2 rfl)
     have V:=y H.n
     simp [go_sem,ee1,eg,V.cell,V.frz]
     have f5:=f5.otherT V (by decide) (by decide) [.slice m5.map.A r.map.length m5.map.c,.int .i64 r.div,.int .i64 r.bx,.int .i64 r.by_,.int .i64 r.low,.int .i64 r.high,.slice m5.noise.A r.noise.length m5.noise.c,.slice m5.limits.A r.limits.length m5.limits.c] 0
     exact F undef _ (H.k.store (.inl hg) [.slice m5.map.A r.map.length m5.map.c,.int .i64 r.div,.int .i64 r.bx,.int .i64 r.by_,.int .i64 r.low,.int .i64 r.high,.slice m5.noise.A r.noise.length m5.noise.c,.slice m5.limits.A r.limits.length m5.limits.c] 0) trivial ⟨(fun h=>by obtain ⟨m5',e,f5'⟩:=x0 h;exact ⟨m5',e,f5'.otherT V (by decide) (by decide) [.slice m5.map.A r.map.length m5.map.c,.int .i64 r.div,.int .i64 r.bx,.int .i64 r.by_,.int .i64 r.low,.int .i64 r.high,.slice m5.noise.A r.noise.length m5.noise.c,.slice m5.limits.A r.limits.length m5.limits.c] 0⟩),(fun _=>Ye.set eg hg V (us:=[.slice m5.map.A r.map.length m5.map.c,.int .i64 r.div,.int .i64 r.bx,.int .i64 r.by_,.int .i64 r.low,.int .i64 r.high,.slice m5.noise.A r.noise.length m5.noise.c,.slice m5.limits.A r.limits.length m5.limits.c]) rfl ⟨m5,rfl,f5⟩)⟩
    intro L a43 w44 T B C P R
    obtain ⟨x0,x1⟩:=R
    replace M:=B.Z M;replace K:=B.E K;replace s1:=B.G s1;replace s4:=B.G s4;replace s6:=B.G s6;replace s7:=B.G s7;replace s10:=B.G s10;replace b3:=b3.k0 C;replace b4:=b4.k0 C;replace b5:=b5.k0 C
    obtain ⟨g45,s11,lg45,-,b45⟩:=x1 (T 2 (by decide))
    obtain ⟨_,b45,m5,rfl,N5⟩:=b45 (T 3 (by decide))
    have ug45:=b45.lt
    replace N4:=N4.below C.toBelow Xu;have BL5:BlkL w42.heap.size w44.heap.size [m5.map,m5.noise,m5.limits]:=N5.blkL;have zw44:=C.size;replace U:=Nat.le_refl w44.heap.size;replace S:=C.below0 S;clear B C P T x0 x1;refine Xj (wp_seq ?_)
    refine Xe (by kernel_rfl) [45,46,12] [some (.slice ms_A ms.length ms_c),none,none] (X7 3) [45,46,12] [0,1,2] [] (fun L aa D=>(L 1=true→(fun D v=>∃ A6 c6,v=.slice A6 ms.length c6∧XY 132 2 ZD D w44.heap.size (.slice A6 (ms).length c6) ms) D (aa.tmps[46]?.getD undef))∧(L 2=true→(fun D v=>∃ A6 c6,v=.slice A6 ms.length c6∧XY 132 2 ZD D w44.heap.size (.slice A6 (ms).length c6) ms) D (aa.tmps[12]?.getD undef))) (by kernel_rfl) (by rw [M];decide) ?_ (en rfl ?_ (en rfl ?_ (en rfl ?_ .nil))) ?_
    ·exact fun _ h=>⟨(fun h=>by cases h),(fun h=>by cases h)⟩
    ·exact fun O J D H _ _ F=>XF rfl (ev (H.f.g rfl s1)) (F _ _ H.k rfl ⟨(fun h=>by rw [Xb (by decide)];obtain ⟨A6',c6',e,f6'⟩:=H.x.1 h;exact ⟨A6',c6',e,f6'.below bR Xu⟩),(fun h=>by rw [Xb (by decide)];obtain ⟨A6',c6',e,f6'⟩:=H.x.2 h;exact ⟨A6',c6',e,f6'.below bR Xu⟩)⟩)
    ·intro O J D H _ _ F
     obtain ⟨x0,x1⟩:=H.x
     simp [go_sem,(gS J 45 (H.d 0 rfl rfl))]
     have hBi:=H.k.below0 S
     refine (JG ms_A ms ms_c D (by have:=Xg q8;have:=Xg q19;have:=Xg q30;(try unfold Xf at *);omega) (hs_ms.below hBi)).mono ?_
     rintro x wx ⟨_,rfl,⟨A6,c6,rfl,f0⟩,hb⟩
     have f6:=XY.mono (show XY 132 2 ZD wx D.heap.size (.slice A6 (ms).length c6) ms from ⟨_,_,rfl,f0⟩) H.k.size
     exact (F _ _ (H.k.call hb) trivial ⟨(fun _=>by rw [Xc (H.f.lt (by rw [M];decide))];exact ⟨A6,c6,rfl,f6⟩),(fun h=>by rw [Xb (by decide)];obtain ⟨A6',c6',e,f6'⟩:=x1 h;exact ⟨A6',c6',e,f6'.below hb Xu⟩)⟩)
    ·intro O J D H _ _ F
     obtain ⟨x0,x1⟩:=H.x
     obtain ⟨A6,c6,ee1,f6⟩:=x0 (H.r 1 rfl)
     exact X1 rfl (ev ee1) (F _ _ H.k trivial ⟨(fun h=>by rw [Xb (by decide)];obtain ⟨A6',c6',e,f6'⟩:=x0 h;exact ⟨A6',c6',e,f6'.below bR Xu⟩),(fun _=>by rw [Xc (H.f.lt (by rw [M];decide))];exact ⟨A6,c6,rfl,f6⟩)⟩)
    intro L a46 w47 T B C P R
    obtain ⟨x0,x1⟩:=R
    replace M:=B.Z M;replace K:=B.E K;replace s1:=B.G s1;replace s4:=B.G s4;replace s6:=B.G s6;replace s7:=B.G s7;replace s10:=B.G s10;replace s11:=B.G s11;replace b3:=b3.k0 C;replace b4:=b4.k0 C;replace b5:=b5.k0 C;replace b45:=b45.k0 C
    obtain ⟨A6,c6,s12,N6⟩:=x1 (T 2 (by decide))
    replace N4:=N4.below C.toBelow Xu;replace N5:=N5.below C.toBelow Xu;have BL6:BlkL w44.heap.size w47.heap.size [⟨A6,c6⟩]:=N6.blkL;have zw47:=C.size;replace U:=Nat.le_refl w47.heap.size;replace S:=C.below0 S;clear B C P T x0 x1;refine Xj (wp_seq ?_)
    refine Xe (by kernel_rfl) [47,48,13,0] [some (.agg #[.slice p_a.A p.length p_a.c]),none,none,none] (X7 4) [47,48,13] [0,1,2,3] [] (fun L aa D=>(L 1=true→(fun D v=>∃ m7,v=.agg #[.slice m7.A p.length m7.c]∧XL D w47.heap.size p m7) D (aa.tmps[48]?.getD undef))∧(L 2=true→Ye w47 aa D 13 37 [.slice none 0 0] (L 3) (fun D vs=>∃ m7,vs=[.slice m7.A p.length m7.c]∧XL D w47.heap.size p m7))) (by kernel_rfl) (by rw [M];decide) ?_ (en rfl ?_ (en rfl ?_ (en rfl ?_ (en rfl ?_ .nil)))) ?_
    ·exact fun _ h=>⟨(fun h=>by cases h),(fun h=>by cases h)⟩
    ·intro O J D H _ _ F
     simp [go_sem,H.f.g rfl s6,(b4.k0 H.k).cell]
     exact (F _ _ H.k rfl ⟨(fun h=>by rw [Xb (by decide)];obtain ⟨m7',e,f7'⟩:=H.x.1 h;exact ⟨m7',e,f7'.below bR Xu⟩),(fun h=>((H.x.2 h).bel bR (fun _ ⟨m7',e,f7'⟩=>⟨m7',e,f7'.below bR Xu⟩)).put (by decide) _)⟩)
    ·intro O J D H _ _ F
     obtain ⟨x0,x1⟩:=H.x
     simp [go_sem,(gS J 47 (H.d 0 rfl rfl))]
     have hBi:=H.k.below0 S
     refine (Zw p p_a D (by have:=Xg q8;have:=Xg q19;have:=Xg q30;(try unfold Xf at *);omega) ⟨(hs_p.halves.below hBi)⟩).mono ?_
     rintro x wx ⟨m7,rfl,f0,hb⟩
     have f7:=f0.mono H.k.size
     exact (F _ _ (H.k.call hb) trivial ⟨(fun _=>by rw [Xc (H.f.lt (by rw [M];decide))];exact ⟨m7,rfl,f7⟩),(fun h=>((x1 h).bel hb (fun _ ⟨m7',e,f7'⟩=>⟨m7',e,f7'.below hb Xu⟩)).put (by decide) _)⟩)
    ·intro O J D H _ _ F
     obtain ⟨x0,x1⟩:=H.x
     simp [go_sem]
     exact F _ _ (H.k.alloc _) trivial ⟨(fun h=>by rw [Xb (by decide)];obtain ⟨m7',e,f7'⟩:=x0 h;exact ⟨m7',e,f7'.below (Xm bR _) Xu⟩),(fun _=>by rw [show ZB O 2 3=false from H.t 3 rfl];exact Ye.new (s:=13) (H.f.lt (by rw [M];decide)) H.k.size [.slice none 0 0])⟩
    ·intro O J D H _ _ F
     obtain ⟨x0,x1⟩:=H.x
     obtain ⟨m7,ee1,f7⟩:=x0 (H.r 1 rfl)
     obtain ⟨g,eg,hg,y,_⟩:=x1 (H.r 2 rfl)
     have V:=y H.n
     simp [go_sem,ee1,eg,V.cell,V.frz]
     have f7:=f7.otherT V (by decide) [.slice m7.A p.length m7.c] 0
     exact F undef _ (H.k.store (.inl hg) [.slice m7.A p.length m7.c] 0) trivial ⟨(fun h=>by obtain ⟨m7',e,f7'⟩:=x0 h;exact ⟨m7',e,f7'.otherT V (by decide) [.slice m7.A p.length m7.c] 0⟩),(fun _=>Ye.set eg hg V (us:=[.slice m7.A p.length m7.c]) rfl ⟨m7,rfl,f7⟩)⟩
    intro L a48 w49 T B C P R
    obtain ⟨x0,x1⟩:=R
    replace M:=B.Z M;replace K:=B.E K;replace s1:=B.G s1;replace s4:=B.G s4;replace s6:=B.G s6;replace s7:=B.G s7;replace s10:=B.G s10;replace s11:=B.G s11;replace s12:=B.G s12;replace b3:=b3.k0 C;replace b4:=b4.k0 C;replace b5:=b5.k0 C;replace b45:=b45.k0 C
    obtain ⟨g50,s13,lg50,-,b50⟩:=x1 (T 2 (by decide))
    obtain ⟨_,b50,m7,rfl,N7⟩:=b50 (T 3 (by decide))
    have ug50:=b50.lt
    replace N4:=N4.below C.toBelow Xu;replace N5:=N5.below C.toBelow Xu;replace N6:=N6.below C.toBelow Xu;have BL7:BlkL w47.heap.size w49.heap.size [m7]:=N7.blkL;have zw49:=C.size;replace U:=Nat.le_refl w49.heap.size;replace S:=C.below0 S;clear B C P T x0 x1;refine Xj (wp_seq ?_)
    have I:XI [14,54] (fun L aa D=>(L 5=true→(fun D v=>∃ A8 c8,v=.slice A8 ((Ji r ms p s).length) c8∧XY 3 1 YP D w49.heap.size (.slice A8 (Ji r ms p s).length c8) (Ji r ms p s)) D (aa.tmps[54]?.getD undef))∧(L 6=true→(fun D v=>∃ A8 c8,v=.slice A8 ((Ji r ms p s).length) c8∧XY 3 1 YP D w49.heap.size (.slice A8 (Ji r ms p s).length c8) (Ji r ms p s)) D (aa.tmps[14]?.getD undef))):=by
     intro L aa D w' kk vv hkk hb R
     obtain ⟨x0,x1⟩:=R
     exact ⟨(fun h=>by rw [Xb (hkk 54 (by simp))];obtain ⟨A8',c8',e,f8'⟩:=x0 h;exact ⟨A8',c8',e,f8'.below hb Xu⟩),(fun h=>by rw [Xb (hkk 14 (by simp))];obtain ⟨A8',c8',e,f8'⟩:=x1 h;exact ⟨A8',c8',e,f8'.below hb Xu⟩)⟩
    refine Xx I (by kernel_rfl) [49,50,51,52,53,54,14] [some (XH r m5),some (.slice A6 ms.length c6),some (.agg #[.slice m7.A p.length m7.c]),some (Yz s),some (Yz s),none,none] ([[],[],[],[],[3],[0,1,2,3,4],[0,1,2,3,4,5]]) [49,50,51,52,53,54,14] [0,1,2,3,4,5,6] [] (by kernel_rfl) (by rw [M];decide) ?_ (en rfl ?_ (en rfl ?_ (en rfl ?_ (en rfl ?_ (en rfl ?_ (en rfl ?_ (en rfl ?_ .nil))))))) ?_
    ·exact fun _ h=>⟨(fun h=>by cases h),(fun h=>by cases h)⟩
    ·intro O J D H _ _ F
     simp [go_sem,H.f.g rfl s11,(b45.k0 H.k).cell]
     exact (F _ _ H.k rfl (I.q rfl H.x))
    ·exact Kn s12 rfl rfl rfl fun _ _ _ _=>I.q rfl
    ·intro O J D H _ _ F
     simp [go_sem,H.f.g rfl s13,(b50.k0 H.k).cell]
     exact (F _ _ H.k rfl (I.q rfl H.x))
    ·intro O J D H _ _ F
     simp [go_sem,H.f.g rfl s7,(b5.k0 H.k).cell]
     exact (F _ _ H.k rfl (I.q rfl H.x))
    ·intro O J D H _ _ F
     simp [go_sem,(gS J 52 (H.d 3 rfl rfl))]
     refine (toSpot_c s D).mono ?_
     rintro x wx ⟨rfl,hb⟩
     exact (F _ _ (H.k.call hb) rfl (I.b rfl hb H.x))
    ·intro O J D H _ _ F
     obtain ⟨x0,x1⟩:=H.x
     simp [go_sem,(gS J 49 (H.d 0 rfl rfl)),(gS J 50 (H.d 1 rfl rfl)),(gS J 51 (H.d 2 rfl rfl)),(gS J 53 (H.d 4 rfl rfl))]
     refine (iSafe_c r ms p s m5 ⟨A6,c6⟩ m7 D (by have:=Xg q8;have:=Xg q19;have:=Xg q30;(try unfold Xf at *);omega) hin_r hin_ms ((N5.below H.k.toBelow Xu).sl) N5.nil (by have:=Xg q8;have:=Xg q19;have:=Xg q30;(try unfold Xf at *);omega) hin_p.halves (by have:=Xg q8;have:=Xg q19;have:=Xg q30;(try unfold Xf at *);omega) ((N6.below H.k.toBelow Xu).out Kl) ((N7.below H.k.toBelow Xu).halves.out Xz) N7.halves.nilcap hin_s).mono ?_
     rintro x wx ⟨_,rfl,⟨A8,c8,rfl,f0⟩,hb⟩
     have f8:=XY.mono (show XY 3 1 YP wx D.heap.size (.slice A8 (Ji r ms p s).length c8) (Ji r ms p s) from ⟨_,_,rfl,f0⟩) H.k.size
     exact (F _ _ (H.k.call hb) trivial ⟨(fun _=>by rw [Xc (H.f.lt (by rw [M];decide))];exact ⟨A8,c8,rfl,f8⟩),(fun h=>by rw [Xb (by decide)];obtain ⟨A8',c8',e,f8'⟩:=x1 h;exact ⟨A8',c8',e,f8'.below hb Xu⟩)⟩)
    ·intro O J D H _ _ F
     obtain ⟨x0,x1⟩:=H.x
     obtain ⟨A8,c8,ee5,f8⟩:=x0 (H.r 5 rfl)
     exact X1 rfl (ev ee5) (F _ _ H.k trivial ⟨(fun h=>by rw [Xb (by decide)];obtain ⟨A8',c8',e,f8'⟩:=x0 h;exact ⟨A8',c8',e,f8'.below bR Xu⟩),(fun _=>by rw [Xc (H.f.lt (by rw [M];decide))];exact ⟨A8,c8,rfl,f8⟩)⟩)
    intro L a51 w52 T B C P R
    obtain ⟨x0,x1⟩:=R
    replace M:=B.Z M;replace K:=B.E K;replace s1:=B.G s1;replace s4:=B.G s4;replace s6:=B.G s6;replace s7:=B.G s7;replace s10:=B.G s10;replace s11:=B.G s11;replace s12:=B.G s12;replace s13:=B.G s13;replace b3:=b3.k0 C;replace b4:=b4.k0 C;replace b5:=b5.k0 C;replace b45:=b45.k0 C;replace b50:=b50.k0 C
    obtain ⟨A8,c8,s14,N8⟩:=x1 (T 6 (by decide))
    replace N4:=N4.below C.toBelow Xu;replace N5:=N5.below C.toBelow Xu;replace N6:=N6.below C.toBelow Xu;replace N7:=N7.below C.toBelow Xu;have BL8:BlkL w49.heap.size w52.heap.size [⟨A8,c8⟩]:=N8.blkL;have zw52:=C.size;replace U:=Nat.le_refl w52.heap.size;replace S:=C.below0 S;clear B C P T x0 x1 I;refine Xj (wp_seq (wp_seq ?_))
    refine Xe (by kernel_rfl) [55,56,57,58] [some (.slice A8 ((Ji r ms p s).length) c8),some (.slice A4 ((Ji r ms p s).length) c4),some (.bool true),some (.bool false)] (X7 4) [55,56,57,58] [0,1,2,3] [] (fun _ _ _=>True) (by kernel_rfl) (by rw [M];decide) ?_ (en rfl ?_ (en rfl ?_ (en rfl ?_ (en rfl ?_ .nil)))) ?_
    ·exact fun _ _=>trivial
    ·exact YA s14 rfl rfl rfl
    ·exact YA s10 rfl rfl rfl
    ·intro O J D H _ _ F
     simp [go_sem,(gS J 55 (H.d 0 rfl rfl)),(gS J 56 (H.d 1 rfl rfl))]
     refine (eqIntS_t A8 A4 (Ji r ms p s) c8 c4 D (by have:=Xg q8;have:=Xg q19;have:=Xg q30;(try unfold Xf at *);omega) ((N8.below H.k.toBelow Xu).out Yv) ((N4.below H.k.toBelow Xu).out Yv)).mono ?_
     rintro x wx ⟨rfl,hb⟩
     exact (F _ _ (H.k.call hb) rfl trivial)
    ·exact Jn 2 rfl rfl rfl rfl
    intro L a53 w54 T B C P R;replace M:=B.Z M;replace K:=B.E K;replace s1:=B.G s1;replace s4:=B.G s4;replace s6:=B.G s6;replace s7:=B.G s7;replace s10:=B.G s10;replace s11:=B.G s11;replace s12:=B.G s12;replace s13:=B.G s13;replace s14:=B.G s14;have s58:=gS a53 58 (P 3 _ rfl);replace b3:=b3.k0 C;replace b4:=b4.k0 C;replace b5:=b5.k0 C;replace b45:=b45.k0 C;replace b50:=b50.k0 C;replace N4:=N4.below C.toBelow Xu;replace N5:=N5.below C.toBelow Xu;replace N6:=N6.below C.toBelow Xu;replace N7:=N7.below C.toBelow Xu;replace N8:=N8.below C.toBelow Xu;replace U:=Nat.le_trans U C.size;replace S:=C.below0 S;clear B C P T R;refine Xj ?_
    refine wp_cond_false (ev s58) ?_
    refine wp_skip (Xj (wp_seq (wp_seq ?_)))
    have I:XI [61] (fun L aa D=>(L 2=true→(fun D v=>∃ m9,v=XH r m9∧X0 D w54.heap.size r m9) D (aa.tmps[61]?.getD undef))):=by
     intro L aa D w' kk vv hkk hb R
     have x0:=R
     exact (fun h=>by rw [Xb (hkk 61 (by simp))];obtain ⟨m9',e,f9'⟩:=x0 h;exact ⟨m9',e,f9'.below hb Xu⟩)
    refine Xx I (by kernel_rfl) [59,60,61,62,63] [some (XH r m5),some (XH r r_a),none,some (.bool true),some (.bool false)] ([[],[],[1],[0,1,2],[0,1,2,3]]) [59,60,61,62,63] [0,1,2,3,4] [] (by kernel_rfl) (by rw [M];decide) ?_ (en rfl ?_ (en rfl ?_ (en rfl ?_ (en rfl ?_ (en rfl ?_ .nil))))) ?_
    ·exact fun _ h=>(fun h=>by cases h)
    ·intro O J D H _ _ F
     simp [go_sem,H.f.g rfl s11,(b45.k0 H.k).cell]
     exact (F _ _ H.k rfl (I.q rfl H.x))
    ·intro O J D H _ _ F
     simp [go_sem,H.f.g rfl s4,(b3.k0 H.k).cell]
     exact (F _ _ H.k rfl (I.q rfl H.x))
    ·intro O J D H _ _ F
     have x0:=H.x
     simp [go_sem,(gS J 60 (H.d 1 rfl rfl))]
     have hBi:=H.k.below0 S
     refine (KE r r_a D (by have:=Xg q8;have:=Xg q19;have:=Xg q30;(try unfold Xf at *);omega) (hs_r.below hBi)).mono ?_
     rintro x wx ⟨m9,rfl,f0,hb⟩
     have f9:=f0.mono H.k.size
     exact (F _ _ (H.k.call hb) trivial (fun _=>by rw [Xc (H.f.lt (by rw [M];decide))];exact ⟨m9,rfl,f9⟩))
    ·intro O J D H _ _ F
     have x0:=H.x
     obtain ⟨m9,ee2,f9⟩:=x0 (H.r 2 rfl)
     simp [go_sem,(gS J 59 (H.d 0 rfl rfl)),ee2]
     refine (eqRoom_t r m5 m9 D (by have:=Xg q8;have:=Xg q19;have:=Xg q30;(try unfold Xf at *);omega) ((N5.below H.k.toBelow Xu).sl) f9.sl).mono ?_
     rintro x wx ⟨rfl,hb⟩
     exact (F _ _ (H.k.call hb) rfl (I.b rfl hb H.x))
    ·exact oNDX 3 rfl rfl rfl rfl fun _ _ _ _=>I.q rfl
    intro L a55 w56 T B C P R;have x0:=R;replace M:=B.Z M;replace K:=B.E K;replace s1:=B.G s1;replace s4:=B.G s4;replace s6:=B.G s6;replace s7:=B.G s7;replace s10:=B.G s10;replace s11:=B.G s11;replace s12:=B.G s12;replace s13:=B.G s13;replace s14:=B.G s14;have s63:=gS a55 63 (P 4 _ rfl);replace b3:=b3.k0 C;replace b4:=b4.k0 C;replace b5:=b5.k0 C;replace b45:=b45.k0 C;replace b50:=b50.k0 C;replace N4:=N4.below C.toBelow Xu;replace N5:=N5.below C.toBelow Xu;replace N6:=N6.below C.toBelow Xu;replace N7:=N7.below C.toBelow Xu;replace N8:=N8.below C.toBelow Xu;replace U:=Nat.le_trans U C.size;replace S:=C.below0 S;clear B C P T x0 I s58;refine Xj ?_
    refine wp_cond_false (ev s63) ?_
    refine wp_skip (Xj (wp_seq (wp_seq ?_)))
    have I:XI [66] (fun L aa D=>(L 2=true→(fun D v=>∃ A10 c10,v=.slice A10 ms.length c10∧XY 132 2 ZD D w56.heap.size (.slice A10 (ms).length c10) ms) D (aa.tmps[66]?.getD undef))):=by
     intro L aa D w' kk vv hkk hb R
     have x0:=R
     exact (fun h=>by rw [Xb (hkk 66 (by simp))];obtain ⟨A10',c10',e,f10'⟩:=x0 h;exact ⟨A10',c10',e,f10'.below hb Xu⟩)
    refine Xx I (by kernel_rfl) [64,65,66,67,68] [some (.slice A6 ms.length c6),some (.slice ms_A ms.length ms_c),none,some (.bool true),some (.bool false)] (X7 5) [64,65,66,67,68] [0,1,2,3,4] [] (by kernel_rfl) (by rw [M];decide) ?_ (en rfl ?_ (en rfl ?_ (en rfl ?_ (en rfl ?_ (en rfl ?_ .nil))))) ?_
    ·exact fun _ h=>(fun h=>by cases h)
    ·exact Kn s12 rfl rfl rfl fun _ _ _ _=>I.q rfl
    ·exact Kn s1 rfl rfl rfl fun _ _ _ _=>I.q rfl
    ·intro O J D H _ _ F
     have x0:=H.x
     simp [go_sem,(gS J 65 (H.d 1 rfl rfl))]
     have hBi:=H.k.below0 S
     refine (JG ms_A ms ms_c D (by have:=Xg q8;have:=Xg q19;have:=Xg q30;(try unfold Xf at *);omega) (hs_ms.below hBi)).mono ?_
     rintro x wx ⟨_,rfl,⟨A10,c10,rfl,f0⟩,hb⟩
     have f10:=XY.mono (show XY 132 2 ZD wx D.heap.size (.slice A10 (ms).length c10) ms from ⟨_,_,rfl,f0⟩) H.k.size
     exact (F _ _ (H.k.call hb) trivial (fun _=>by rw [Xc (H.f.lt (by rw [M];decide))];exact ⟨A10,c10,rfl,f10⟩))
    ·intro O J D H _ _ F
     have x0:=H.x
     obtain ⟨A10,c10,ee2,f10⟩:=x0 (H.r 2 rfl)
     simp [go_sem,(gS J 64 (H.d 0 rfl rfl)),ee2]
     refine (eqModeS_t A6 A10 ms c6 c10 D (by have:=Xg q8;have:=Xg q19;have:=Xg q30;(try unfold Xf at *);omega) ((N6.below H.k.toBelow Xu).out Kl) (f10.out Kl)).mono ?_
     rintro x wx ⟨rfl,hb⟩
     exact (F _ _ (H.k.call hb) rfl (I.b rfl hb H.x))
    ·exact oNDX 3 rfl rfl rfl rfl fun _ _ _ _=>I.q rfl
    intro L a57 w58 T B C P R;have x0:=R;replace M:=B.Z M;replace K:=B.E K;replace s1:=B.G s1;replace s4:=B.G s4;replace s6:=B.G s6;replace s7:=B.G s7;replace s10:=B.G s10;replace s11:=B.G s11;replace s12:=B.G s12;replace s13:=B.G s13;replace s14:=B.G s14;have s68:=gS a57 68 (P 4 _ rfl);replace b3:=b3.k0 C;replace b4:=b4.k0 C;replace b5:=b5.k0 C;replace b45:=b45.k0 C;replace b50:=b50.k0 C;replace N4:=N4.below C.toBelow Xu;replace N5:=N5.below C.toBelow Xu;replace N6:=N6.below C.toBelow Xu;replace N7:=N7.below C.toBelow Xu;replace N8:=N8.below C.toBelow Xu;replace U:=Nat.le_trans U C.size;replace S:=C.below0 S;clear B C P T x0 I s63;refine Xj ?_
    refine wp_cond_false (ev s68) ?_
    refine wp_skip (Xj (wp_seq (wp_seq ?_)))
    have I:XI [71] (fun L aa D=>(L 2=true→(fun D v=>∃ m11,v=.agg #[.slice m11.A p.length m11.c]∧XL D w58.heap.size p m11) D (aa.tmps[71]?.getD undef))):=by
     intro L aa D w' kk vv hkk hb R
     have x0:=R
     exact (fun h=>by rw [Xb (hkk 71 (by simp))];obtain ⟨m11',e,f11'⟩:=x0 h;exact ⟨m11',e,f11'.below hb Xu⟩)
    refine Xx I (by kernel_rfl) [69,70,71,72,73] [some (.agg #[.slice m7.A p.length m7.c]),some (.agg #[.slice p_a.A p.length p_a.c]),none,some (.bool true),some (.bool false)] ([[],[],[1],[0,1,2],[0,1,2,3]]) [69,70,71,72,73] [0,1,2,3,4] [] (by kernel_rfl) (by rw [M];decide) ?_ (en rfl ?_ (en rfl ?_ (en rfl ?_ (en rfl ?_ (en rfl ?_ .nil))))) ?_
    ·exact fun _ h=>(fun h=>by cases h)
    ·intro O J D H _ _ F
     simp [go_sem,H.f.g rfl s13,(b50.k0 H.k).cell]
     exact (F _ _ H.k rfl (I.q rfl H.x))
    ·intro O J D H _ _ F
     simp [go_sem,H.f.g rfl s6,(b4.k0 H.k).cell]
     exact (F _ _ H.k rfl (I.q rfl H.x))
    ·intro O J D H _ _ F
     have x0:=H.x
     simp [go_sem,(gS J 70 (H.d 1 rfl rfl))]
     have hBi:=H.k.below0 S
     refine (Zw p p_a D (by have:=Xg q8;have:=Xg q19;have:=Xg q30;(try unfold Xf at *);omega) ⟨(hs_p.halves.below hBi)⟩).mono ?_
     rintro x wx ⟨m11,rfl,f0,hb⟩
     have f11:=f0.mono H.k.size
     exact (F _ _ (H.k.call hb) trivial (fun _=>by rw [Xc (H.f.lt (by rw [M];decide))];exact ⟨m11,rfl,f11⟩))
    ·intro O J D H _ _ F
     have x0:=H.x
     obtain ⟨m11,ee2,f11⟩:=x0 (H.r 2 rfl)
     simp [go_sem,(gS J 69 (H.d 0 rfl rfl)),ee2]
     refine (JN p m7 m11 D (by have:=Xg q8;have:=Xg q19;have:=Xg q30;(try unfold Xf at *);omega) ⟨((N7.below H.k.toBelow Xu).halves.out Xz)⟩ ⟨(f11.halves.out Xz)⟩).mono ?_
     rintro x wx ⟨rfl,hb⟩
     exact (F _ _ (H.k.call hb) rfl (I.b rfl hb H.x))
    ·exact oNDX 3 rfl rfl rfl rfl fun _ _ _ _=>I.q rfl
    intro L a59 w60 T B C P R;have x0:=R;replace M:=B.Z M;replace K:=B.E K;replace s1:=B.G s1;replace s4:=B.G s4;replace s6:=B.G s6;replace s7:=B.G s7;replace s10:=B.G s10;replace s11:=B.G s11;replace s12:=B.G s12;replace s13:=B.G s13;replace s14:=B.G s14;have s73:=gS a59 73 (P 4 _ rfl);replace b3:=b3.k0 C;replace b4:=b4.k0 C;replace b5:=b5.k0 C;replace b45:=b45.k0 C;replace b50:=b50.k0 C;replace N4:=N4.below C.toBelow Xu;replace N5:=N5.below C.toBelow Xu;replace N6:=N6.below C.toBelow Xu;replace N7:=N7.below C.toBelow Xu;replace N8:=N8.below C.toBelow Xu;replace U:=Nat.le_trans U C.size;replace S:=C.below0 S;clear B C P T x0 I s68;refine Xj ?_
    refine wp_cond_false (ev s73) ?_
    refine wp_skip (Xj (wp_seq ?_))
    refine Xe (by kernel_rfl) [15] [some (.int .i64 1)] (X7 1) [15] [0] [] (fun _ _ _=>True) (by kernel_rfl) (by rw [M];decide) ?_ (en rfl ?_ .nil) ?_
    ·exact fun _ _=>trivial
    ·exact Kk rfl rfl
    intro L a61 w62 T B C P R;replace M:=B.Z M;replace K:=B.E K;replace s1:=B.G s1;replace s4:=B.G s4;replace s6:=B.G s6;replace s7:=B.G s7;replace s10:=B.G s10;replace s11:=B.G s11;replace s12:=B.G s12;replace s13:=B.G s13;replace s14:=B.G s14;have s15:=gS a61 15 (P 0 _ rfl);replace b3:=b3.k0 C;replace b4:=b4.k0 C;replace b5:=b5.k0 C;replace b45:=b45.k0 C;replace b50:=b50.k0 C;replace N4:=N4.below C.toBelow Xu;replace N5:=N5.below C.toBelow Xu;replace N6:=N6.below C.toBelow Xu;replace N7:=N7.below C.toBelow Xu;replace N8:=N8.below C.toBelow Xu;replace U:=Nat.le_trans U C.size;replace S:=C.below0 S;clear B C P T R s73;refine Xj (wp_seq ?_)
    have hm_r:Xk r≤1048576:=(by have:=Xg q8;have:=Xg q19;have:=Xg q30;(try unfold Xf at *);omega)
    have hu_r:=hm_r
    unfold Xk at hu_r
    have hm_ms:List.length ms≤1048576:=(by have:=Xg q8;have:=Xg q19;have:=Xg q30;(try unfold Xf at *);omega)
    have hm_p:List.length p≤1048576:=(by have:=Xg q8;have:=Xg q19;have:=Xg q30;(try unfold Xf at *);omega)
    have I:XI [15] (fun L aa D=>(L 2=false→X0 D w42.heap.size r m5)∧(L 3=false→aa.tmps[15]?.getD undef=.int .i64 1)):=by
     intro L aa D w' kk vv hkk hb R
     obtain ⟨x0,x1⟩:=R
     exact ⟨(fun h=>(x0 h).below hb Xu),(fun h=>(Xb (hkk 15 (by simp)) vv).trans (x1 h))⟩
    refine Xx I (by kernel_rfl) [74,75,76,15] [some (XH r m5),some (.int .i64 1),some (.int .i64 (1+(r.map.length:Int)+(r.noise.length:Int)*3+(r.limits.length:Int)*3)),some (.int .i64 (1+(r.map.length:Int)+(r.noise.length:Int)*3+(r.limits.length:Int)*3))] (X7 4) [74,75,76,15] [0,1,2,3] (blkLs [m5.map,m5.noise,m5.limits]) (by kernel_rfl) (by rw [M];decide) ?_ (en rfl ?_ (en rfl ?_ (en rfl ?_ (en rfl ?_ .nil)))) ?_
    ·exact fun _ h=>⟨(fun _=>N5.below h.toBelow Xu),(fun _=>s15)⟩
    ·intro O J D H _ _ F
     simp [go_sem,H.f.g rfl s11,(b45.kp H.k (ZE (N5.neT b45 (by decide) (by decide)))).cell]
     exact (F _ _ H.k rfl (I.q rfl H.x))
    ·intro O J D H _ _ F
     obtain ⟨x0,x1⟩:=H.x
     exact XF rfl (ev (x1 (H.t 3 rfl))) (F _ _ H.k rfl (I.q rfl H.x))
    ·intro O J D H _ _ F
     obtain ⟨x0,x1⟩:=H.x
     simp [go_sem,(gS J 74 (H.d 0 rfl rfl)),(gS J 75 (H.d 1 rfl rfl))]
     refine (markRoom_g r m5 1 w42.heap.size D (by omega) (by omega) (by omega) (x0 H.n)).mono ?_
     rintro x wx ⟨rfl,MM,hO⟩
     exact F _ _ (H.k.trans2 hO.kp (fun m h=>.inl h)) rfl ⟨(fun h=>by simp [ZB] at h),(fun h=>(Xb (by decide) _).trans (x1 h))⟩
    ·intro O J D H _ _ F
     obtain ⟨x0,x1⟩:=H.x
     exact X1 rfl (ev (H.d 2 rfl rfl)) (F _ _ H.k rfl ⟨(fun h=>(x0 h).below bR Xu),(fun h=>by simp [ZB] at h)⟩)
    intro L a63 w64 T B C P R
    obtain ⟨x0,x1⟩:=R
    replace M:=B.Z M;replace K:=B.E K;replace s1:=B.G s1;replace s4:=B.G s4;replace s6:=B.G s6;replace s7:=B.G s7;replace s10:=B.G s10;replace s12:=B.G s12;replace s13:=B.G s13;replace s14:=B.G s14;have s15:=gS a63 15 (P 3 _ rfl)
    replace b3:=b3.kp C (ZE (N5.neT b3 (by decide) (by decide)))
    replace b4:=b4.kp C (ZE (N5.neT b4 (by decide) (by decide)))
    replace b5:=b5.kp C (ZE (N5.neT b5 (by decide) (by decide)))
    replace b50:=b50.kp C (ZE (N5.neT b50 (by decide) (by decide)))
    replace N4:=N4.far1 C.only (BL4.apart BL5 (by omega))
    clear N5
    replace N6:=N6.far1 C.only (BL6.apart BL5 (by omega))
    replace N7:=N7.far1 C.only (BL7.apart BL5 (by omega))
    replace N8:=N8.far1 C.only (BL8.apart BL5 (by omega))
    replace U:=Nat.le_trans U C.size
    replace S:=C.below S S.size (blkLs_lo (BL5.lo (by omega)))
    clear B C P T x0 x1 I s11 b45
    have hneg65:decide (1+(r.map.length:Int)+(r.noise.length:Int)*3+(r.limits.length:Int)*3<0)=false:=decide_eq_false (by omega)
    refine Xj (wp_seq ?_)
    have I:XI [15] (fun L aa D=>(L 2=false→XY 132 2 ZD D w44.heap.size (.slice A6 ms.length c6) ms)∧(L 3=false→aa.tmps[15]?.getD undef=.int .i64 (1+(r.map.length:Int)+(r.noise.length:Int)*3+(r.limits.length:Int)*3))):=by
     intro L aa D w' kk vv hkk hb R
     obtain ⟨x0,x1⟩:=R
     exact ⟨(fun h=>(x0 h).below hb Xu),(fun h=>(Xb (hkk 15 (by simp)) vv).trans (x1 h))⟩
    refine Xx I (by kernel_rfl) [77,78,79,15] [some (.slice A6 ms.length c6),some (.int .i64 (1+(r.map.length:Int)+(r.noise.length:Int)*3+(r.limits.length:Int)*3)),some (.int .i64 (1+(r.map.length:Int)+(r.noise.length:Int)*3+(r.limits.length:Int)*3+(ms.length:Int)*2)),some (.int .i64 (1+(r.map.length:Int)+(r.noise.length:Int)*3+(r.limits.length:Int)*3+(ms.length:Int)*2))] (X7 4) [77,78,79,15] [0,1,2,3] (blkLs [⟨A6,c6⟩]) (by kernel_rfl) (by rw [M];decide) ?_ (en rfl ?_ (en rfl ?_ (en rfl ?_ (en rfl ?_ .nil)))) ?_
    ·exact fun _ h=>⟨(fun _=>N6.below h.toBelow Xu),(fun _=>s15)⟩
    ·exact Kn s12 rfl rfl rfl fun _ _ _ _=>I.q rfl
    ·intro O J D H _ _ F
     obtain ⟨x0,x1⟩:=H.x
     exact XF rfl (ev (x1 (H.t 3 rfl))) (F _ _ H.k rfl (I.q rfl H.x))
    ·intro O J D H _ _ F
     obtain ⟨x0,x1⟩:=H.x
     simp [go_sem,(gS J 77 (H.d 0 rfl rfl)),(gS J 78 (H.d 1 rfl rfl))]
     refine (markModeS_g A6 ms.length c6 ms (1+(r.map.length:Int)+(r.noise.length:Int)*3+(r.limits.length:Int)*3) w44.heap.size D rfl (by omega) (by omega) (by omega) (x0 H.n)).mono ?_
     rintro x wx ⟨rfl,MM,hO⟩
     exact F _ _ (H.k.trans2 hO.kp (fun m h=>.inl h)) rfl ⟨(fun h=>by simp [ZB] at h),(fun h=>(Xb (by decide) _).trans (x1 h))⟩
    ·intro O J D H _ _ F
     obtain ⟨x0,x1⟩:=H.x
     exact X1 rfl (ev (H.d 2 rfl rfl)) (F _ _ H.k rfl ⟨(fun h=>(x0 h).below bR Xu),(fun h=>by simp [ZB] at h)⟩)
    intro L a66 w67 T B C P R
    obtain ⟨x0,x1⟩:=R
    replace M:=B.Z M;replace K:=B.E K;replace s1:=B.G s1;replace s4:=B.G s4;replace s6:=B.G s6;replace s7:=B.G s7;replace s10:=B.G s10;replace s13:=B.G s13;replace s14:=B.G s14;have s15:=gS a66 15 (P 3 _ rfl)
    replace b3:=b3.kp C (ZE (N6.neL b3 (by decide)))
    replace b4:=b4.kp C (ZE (N6.neL b4 (by decide)))
    replace b5:=b5.kp C (ZE (N6.neL b5 (by decide)))
    replace b50:=b50.kp C (ZE (N6.neL b50 (by decide)))
    replace N4:=N4.far1 C.only (BL4.apart BL6 (by omega))
    clear N6
    replace N7:=N7.far1 C.only (BL7.apart BL6 (by omega))
    replace N8:=N8.far1 C.only (BL8.apart BL6 (by omega))
    replace U:=Nat.le_trans U C.size
    replace S:=C.below S S.size (blkLs_lo (BL6.lo (by omega)))
    clear B C P T x0 x1 I s12
    have hneg68:decide (1+(r.map.length:Int)+(r.noise.length:Int)*3+(r.limits.length:Int)*3+(ms.length:Int)*2<0)=false:=decide_eq_false (by omega)
    refine Xj (wp_seq ?_)
    have I:XI [15] (fun L aa D=>(L 2=false→XL D w47.heap.size p m7)∧(L 3=false→aa.tmps[15]?.getD undef=.int .i64 (1+(r.map.length:Int)+(r.noise.length:Int)*3+(r.limits.length:Int)*3+(ms.length:Int)*2))):=by
     intro L aa D w' kk vv hkk hb R
     obtain ⟨x0,x1⟩:=R
     exact ⟨(fun h=>(x0 h).below hb Xu),(fun h=>(Xb (hkk 15 (by simp)) vv).trans (x1 h))⟩
    refine Xx I (by kernel_rfl) [80,81,82,15] [some (.agg #[.slice m7.A p.length m7.c]),some (.int .i64 (1+(r.map.length:Int)+(r.noise.length:Int)*3+(r.limits.length:Int)*3+(ms.length:Int)*2)),some (.int .i64 (1+(r.map.length:Int)+(r.noise.length:Int)*3+(r.limits.length:Int)*3+(ms.length:Int)*2+(p.length:Int)*3)),some (.int .i64 (1+(r.map.length:Int)+(r.noise.length:Int)*3+(r.limits.length:Int)*3+(ms.length:Int)*2+(p.length:Int)*3))] (X7 4) [80,81,82,15] [0,1,2,3] (blkLs [m7]) (by kernel_rfl) (by rw [M];decide) ?_ (en rfl ?_ (en rfl ?_ (en rfl ?_ (en rfl ?_ .nil)))) ?_
    ·exact fun _ h=>⟨(fun _=>N7.below h.toBelow Xu),(fun _=>s15)⟩
    ·intro O J D H _ _ F
     simp [go_sem,H.f.g rfl s13,(b50.kp H.k (ZE (N7.neT b50 (by decide)))).cell]
     exact (F _ _ H.k rfl (I.q rfl H.x))
    ·intro O J D H _ _ F
     obtain ⟨x0,x1⟩:=H.x
     exact XF rfl (ev (x1 (H.t 3 rfl))) (F _ _ H.k rfl (I.q rfl H.x))
    ·intro O J D H _ _ F
     obtain ⟨x0,x1⟩:=H.x
     simp [go_sem,(gS J 80 (H.d 0 rfl rfl)),(gS J 81 (H.d 1 rfl rfl))]
     refine (markRegion_g p m7 (1+(r.map.length:Int)+(r.noise.length:Int)*3+(r.limits.length:Int)*3+(ms.length:Int)*2) w47.heap.size D (by omega) (by omega) (by omega) (x0 H.n)).mono ?_
     rintro x wx ⟨rfl,MM,hO⟩
     exact F _ _ (H.k.trans2 hO.kp (fun m h=>.inl h)) rfl ⟨(fun h=>by simp [ZB] at h),(fun h=>(Xb (by decide) _).trans (x1 h))⟩
    ·intro O J D H _ _ F
     obtain ⟨x0,x1⟩:=H.x
     exact X1 rfl (ev (H.d 2 rfl rfl)) (F _ _ H.k rfl ⟨(fun h=>(x0 h).below bR Xu),(fun h=>by simp [ZB] at h)⟩)
    intro L a69 w70 T B C P R
    obtain ⟨x0,x1⟩:=R
    replace M:=B.Z M;replace K:=B.E K;replace s1:=B.G s1;replace s4:=B.G s4;replace s6:=B.G s6;replace s7:=B.G s7;replace s10:=B.G s10;replace s14:=B.G s14;have s15:=gS a69 15 (P 3 _ rfl)
    replace b3:=b3.kp C (ZE (N7.neT b3 (by decide)))
    replace b4:=b4.kp C (ZE (N7.neT b4 (by decide)))
    replace b5:=b5.kp C (ZE (N7.neT b5 (by decide)))
    replace N4:=N4.far1 C.only (BL4.apart BL7 (by omega))
    clear N7
    replace N8:=N8.far1 C.only (BL8.apart BL7 (by omega))
    replace U:=Nat.le_trans U C.size
    replace S:=C.below S S.size (blkLs_lo (BL7.lo (by omega)))
    clear B C P T x0 x1 I s13 b50
    have hneg71:decide (1+(r.map.length:Int)+(r.noise.length:Int)*3+(r.limits.length:Int)*3+(ms.length:Int)*2+(p.length:Int)*3<0)=false:=decide_eq_false (by omega)
    refine Xj (wp_seq (wp_seq ?_))
    refine Xe (by kernel_rfl) [83,84,85,86,87,88,89,90] [some (.int .i64 (1+(r.map.length:Int)+(r.noise.length:Int)*3+(r.limits.length:Int)*3+(ms.length:Int)*2+(p.length:Int)*3)),some (.bool false),some (.bool false),some (.slice A8 ((Ji r ms p s).length) c8),some (.slice A4 ((Ji r ms p s).length) c4),some (.bool true),some (.bool false),some (.bool false)] (X7 8) [83,84,85,86,87,88,89,90] [0,1,2,3,4,5,6,7] [] (fun _ _ _=>True) (by kernel_rfl) (by rw [M];decide) ?_ (en rfl ?_ (en rfl ?_ (en rfl ?_ (eg ?_ (eg ?_ (eg ?_ (eg ?_ (en rfl ?_ .nil)))))))) ?_
    ·exact fun _ _=>trivial
    ·exact YA s15 rfl rfl rfl
    ·exact fun O J D H _ _ F=>Yc rfl (ev (H.d 0 rfl rfl)) rfl rfl rfl (F _ _ H.k (congrArg Value.bool hneg71) trivial)
    ·exact Jj 1 rfl rfl rfl rfl
    ·intro O J D H _ _ F
     refine JU rfl rfl rfl (H.d 2 rfl rfl) ?_
     exact XF rfl (ev (H.f.g rfl s14)) (F _ _ H.k rfl trivial)
    ·intro O J D H _ _ F
     refine JU rfl rfl rfl (H.d 2 rfl rfl) ?_
     exact XF rfl (ev (H.f.g rfl s10)) (F _ _ H.k rfl trivial)
    ·intro O J D H _ _ F
     refine JU rfl rfl rfl (H.d 2 rfl rfl) ?_
     simp [go_sem,(gS J 86 (H.d 3 rfl rfl)),(gS J 87 (H.d 4 rfl rfl))]
     refine (eqIntS_t A8 A4 (Ji r ms p s) c8 c4 D (by have:=Xg q8;have:=Xg q19;have:=Xg q30;(try unfold Xf at *);omega) ((N8.below H.k.toBelow Xu).out Yv) ((N4.below H.k.toBelow Xu).out Yv)).mono ?_
     rintro x wx ⟨rfl,hb⟩
     exact (F _ _ (H.k.call hb) rfl trivial)
    ·intro O J D H _ _ F
     refine JU rfl rfl rfl (H.d 2 rfl rfl) ?_
     exact Jh rfl (ev (H.d 5 rfl rfl)) (F _ _ H.k rfl trivial)
    ·exact fun O J D H _ _ F=>Jd rfl (ev (H.d 2 rfl rfl)) (fun h=>by cases h) (fun _=>(ev (H.d 6 rfl rfl))) (F _ _ H.k rfl trivial)
    intro L a72 w73 T B C P R;replace M:=B.Z M;replace K:=B.E K;replace s1:=B.G s1;replace s4:=B.G s4;replace s6:=B.G s6;replace s7:=B.G s7;replace s10:=B.G s10;replace s14:=B.G s14;have s90:=gS a72 90 (P 7 _ rfl);replace b3:=b3.k0 C;replace b4:=b4.k0 C;replace b5:=b5.k0 C;replace N4:=N4.below C.toBelow Xu;replace N8:=N8.below C.toBelow Xu;replace U:=Nat.le_trans U C.size;replace S:=C.below0 S;clear B C P T R s15;refine Xj ?_
    refine wp_cond_false (ev s90) ?_
    refine wp_skip (Xj (wp_seq ?_))
    refine Xe (by kernel_rfl) [16] [some (.int .i64 1)] (X7 1) [16] [0] [] (fun _ _ _=>True) (by kernel_rfl) (by rw [M];decide) ?_ (en rfl ?_ .nil) ?_
    ·exact fun _ _=>trivial
    ·exact Kk rfl rfl
    intro L a74 w75 T B C P R;replace M:=B.Z M;replace K:=B.E K;replace s1:=B.G s1;replace s4:=B.G s4;replace s6:=B.G s6;replace s7:=B.G s7;replace s10:=B.G s10;replace s14:=B.G s14;have s16:=gS a74 16 (P 0 _ rfl);replace b3:=b3.k0 C;replace b4:=b4.k0 C;replace b5:=b5.k0 C;replace N4:=N4.below C.toBelow Xu;replace N8:=N8.below C.toBelow Xu;replace U:=Nat.le_trans U C.size;replace S:=C.below0 S;clear B C P T R s90;refine Xj (wp_seq ?_)
    have I:XI [16] (fun L aa D=>(L 2=false→XY 3 1 YP D w49.heap.size (.slice A8 (Ji r ms p s).length c8) (Ji r ms p s))∧(L 2=true→XY 3 1 YP D w49.heap.size (.slice A8 (Ji r ms p s).length c8) (Kw 1 (Ji r ms p s).length))∧(L 3=false→aa.tmps[16]?.getD undef=.int .i64 1)):=by
     intro L aa D w' kk vv hkk hb R
     obtain ⟨x0,x1,x2⟩:=R
     exact ⟨(fun h=>(x0 h).below hb Xu),(fun h=>(x1 h).below hb Xu),(fun h=>(Xb (hkk 16 (by simp)) vv).trans (x2 h))⟩
    refine Xx I (by kernel_rfl) [91,92,93,16] [some (.slice A8 ((Ji r ms p s).length) c8),some (.int .i64 1),some (.int .i64 (1+(((Ji r ms p s).length:Nat):Int))),some (.int .i64 (1+(((Ji r ms p s).length:Nat):Int)))] (X7 4) [91,92,93,16] [0,1,2,3] (blkLs [⟨A8,c8⟩]) (by kernel_rfl) (by rw [M];decide) ?_ (en rfl ?_ (en rfl ?_ (en rfl ?_ (en rfl ?_ .nil)))) ?_
    ·exact fun _ h=>⟨(fun _=>N8.below h.toBelow Xu),(fun h=>by cases h),(fun _=>s16)⟩
    ·exact Kn s14 rfl rfl rfl fun _ _ _ _=>I.q rfl
    ·intro O J D H _ _ F
     obtain ⟨x0,x1,x2⟩:=H.x
     exact XF rfl (ev (x2 (H.t 3 rfl))) (F _ _ H.k rfl (I.q rfl H.x))
    ·intro O J D H _ _ F
     obtain ⟨x0,x1,x2⟩:=H.x
     simp [go_sem,(gS J 91 (H.d 0 rfl rfl)),(gS J 92 (H.d 1 rfl rfl))]
     refine (markIntS_g A8 (Ji r ms p s).length c8 (Ji r ms p s) 1 w49.heap.size D rfl (by omega) (by omega) (by omega) (x0 H.n)).mono ?_
     rintro x wx ⟨rfl,MM,hO⟩
     exact F _ _ (H.k.trans2 hO.kp (fun m h=>.inl h)) rfl ⟨(fun h=>by simp [ZB] at h),(fun _=>MM),(fun h=>(Xb (by decide) _).trans (x2 h))⟩
    ·intro O J D H _ _ F
     obtain ⟨x0,x1,x2⟩:=H.x
     exact X1 rfl (ev (H.d 2 rfl rfl)) (F _ _ H.k rfl ⟨(fun h=>(x0 h).below bR Xu),(fun h=>(x1 h).below bR Xu),(fun h=>by simp [ZB] at h)⟩)
    intro L a76 w77 T B C P R
    obtain ⟨x0,x1,x2⟩:=R
    replace M:=B.Z M;replace K:=B.E K;replace s1:=B.G s1;replace s4:=B.G s4;replace s6:=B.G s6;replace s7:=B.G s7;replace s10:=B.G s10;replace s14:=B.G s14;have s16:=gS a76 16 (P 3 _ rfl)
    replace b3:=b3.kp C (ZE (N8.neL b3 (by decide)))
    replace b4:=b4.kp C (ZE (N8.neL b4 (by decide)))
    replace b5:=b5.kp C (ZE (N8.neL b5 (by decide)))
    replace N4:=N4.far1 C.only (BL4.apart BL8 (by omega))
    clear N8
    have N8:=x1 (T 2 (by decide))
    replace U:=Nat.le_trans U C.size
    replace S:=C.below S S.size (blkLs_lo (BL8.lo (by omega)))
    clear B C P T x0 x1 x2 I
    have hneg78:decide (1+(((Ji r ms p s).length:Nat):Int)<0)=false:=decide_eq_false (by omega)
    refine Xj (wp_seq ?_)
    refine Xe (by kernel_rfl) [17] [some (.int .i64 1)] (X7 1) [17] [0] [] (fun _ _ _=>True) (by kernel_rfl) (by rw [M];decide) ?_ (en rfl ?_ .nil) ?_
    ·exact fun _ _=>trivial
    ·exact Kk rfl rfl
    intro L a79 w80 T B C P R;replace M:=B.Z M;replace K:=B.E K;replace s1:=B.G s1;replace s4:=B.G s4;replace s6:=B.G s6;replace s7:=B.G s7;replace s10:=B.G s10;replace s14:=B.G s14;replace s16:=B.G s16;have s17:=gS a79 17 (P 0 _ rfl);replace b3:=b3.k0 C;replace b4:=b4.k0 C;replace b5:=b5.k0 C;replace N4:=N4.below C.toBelow Xu;replace N8:=N8.below C.toBelow Xu;replace U:=Nat.le_trans U C.size;replace S:=C.below0 S;clear B C P T R;refine Xj (wp_seq ?_)
    have I:XI [17] (fun L aa D=>(L 3=false→aa.tmps[17]?.getD undef=.int .i64 1)):=by
     intro L aa D w' kk vv hkk hb R
     have x0:=R
     exact (fun h=>(Xb (hkk 17 (by simp)) vv).trans (x0 h))
    refine Xx I (by kernel_rfl) [94,95,96,17] [some (.slice A8 ((Ji r ms p s).length) c8),some (.int .i64 1),some (.int .i64 (1+(((Ji r ms p s).length:Nat):Int))),some (.int .i64 (1+(((Ji r ms p s).length:Nat):Int)))] (X7 4) [94,95,96,17] [0,1,2,3] [] (by kernel_rfl) (by rw [M];decide) ?_ (en rfl ?_ (en rfl ?_ (en rfl ?_ (en rfl ?_ .nil)))) ?_
    ·exact fun _ h=>(fun _=>s17)
    ·exact fun O J D H _ _ F=>XF rfl (ev (H.f.g rfl s14)) (F _ _ H.k rfl (I O J D _ (some 94) _ (by simp) bR H.x))
    ·intro O J D H _ _ F
     have x0:=H.x
     exact XF rfl (ev (x0 (H.t 3 rfl))) (F _ _ H.k rfl (I O J D _ (some 95) _ (by simp) bR H.x))
    ·intro O J D H _ _ F
     simp [go_sem,(gS J 94 (H.d 0 rfl rfl)),(gS J 95 (H.d 1 rfl rfl))]
     refine (heldIntS_c A8 (Ji r ms p s).length c8 1 D (by omega) (by omega) (by omega) ((N8.below H.k.toBelow Xu).out Yv)).mono ?_
     rintro x wx ⟨rfl,rfl⟩
     exact (F _ _ H.k rfl (I O J D _ (some 96) _ (by simp) bR H.x))
    ·intro O J D H _ _ F
     have x0:=H.x
     exact X1 rfl (ev (H.d 2 rfl rfl)) (F _ _ H.k rfl (fun h=>by simp [ZB] at h))
    intro L a81 w82 T B C P R;have x0:=R;replace M:=B.Z M;replace K:=B.E K;replace s1:=B.G s1;replace s4:=B.G s4;replace s6:=B.G s6;replace s7:=B.G s7;replace s10:=B.G s10;replace s14:=B.G s14;replace s16:=B.G s16;have s17:=gS a81 17 (P 3 _ rfl);replace b3:=b3.k0 C;replace b4:=b4.k0 C;replace b5:=b5.k0 C;replace N4:=N4.below C.toBelow Xu;replace N8:=N8.below C.toBelow Xu;replace U:=Nat.le_trans U C.size;replace S:=C.below0 S;clear B C P T x0 I
    have hneg83:decide (1+(((Ji r ms p s).length:Nat):Int)<0)=false:=decide_eq_false (by omega)
    refine Xj (wp_seq (wp_seq ?_))
    refine Xe (by kernel_rfl) [97,98] [some (.int .i64 (1+(((Ji r ms p s).length:Nat):Int))),some (.bool false)] (X7 2) [97,98] [0,1] [] (fun _ _ _=>True) (by kernel_rfl) (by rw [M];decide) ?_ (en rfl ?_ (en rfl ?_ .nil)) ?_
    ·exact fun _ _=>trivial
    ·exact YA s17 rfl rfl rfl
    ·exact fun O J D H _ _ F=>Yc rfl (ev (H.d 0 rfl rfl)) rfl rfl rfl (F _ _ H.k (congrArg Value.bool hneg83) trivial)
    intro L a84 w85 T B C P R;replace M:=B.Z M;replace K:=B.E K;replace s1:=B.G s1;replace s4:=B.G s4;replace s6:=B.G s6;replace s7:=B.G s7;replace s10:=B.G s10;replace s14:=B.G s14;replace s16:=B.G s16;replace s17:=B.G s17;have s98:=gS a84 98 (P 1 _ rfl);replace b3:=b3.k0 C;replace b4:=b4.k0 C;replace b5:=b5.k0 C;replace N4:=N4.below C.toBelow Xu;replace N8:=N8.below C.toBelow Xu;replace U:=Nat.le_trans U C.size;replace S:=C.below0 S;clear B C P T R;refine Xj ?_
    refine wp_cond_false (ev s98) ?_
    refine wp_skip (Xj (wp_seq (wp_seq ?_)))
    refine Xe (by kernel_rfl) [99,100,101] [some (.int .i64 (1+(((Ji r ms p s).length:Nat):Int))),some (.int .i64 (1+(((Ji r ms p s).length:Nat):Int))),some (.bool false)] (X7 3) [99,100,101] [0,1,2] [] (fun _ _ _=>True) (by kernel_rfl) (by rw [M];decide) ?_ (en rfl ?_ (en rfl ?_ (en rfl ?_ .nil))) ?_
    ·exact fun _ _=>trivial
    ·exact YA s17 rfl rfl rfl
    ·exact YA s16 rfl rfl rfl
    ·intro O J D H _ _ F
     simp [go_sem,(gS J 99 (H.d 0 rfl rfl)),(gS J 100 (H.d 1 rfl rfl))]
     exact (F _ _ H.k rfl trivial)
    intro L a86 w87 T B C P R;replace M:=B.Z M;replace K:=B.E K;replace s1:=B.G s1;replace s4:=B.G s4;replace s6:=B.G s6;replace s7:=B.G s7;replace s10:=B.G s10;replace s14:=B.G s14;replace s16:=B.G s16;have s101:=gS a86 101 (P 2 _ rfl);replace b3:=b3.k0 C;replace b4:=b4.k0 C;replace b5:=b5.k0 C;replace N4:=N4.below C.toBelow Xu;replace N8:=N8.below C.toBelow Xu;replace U:=Nat.le_trans U C.size;replace S:=C.below0 S;clear B C P T R s17 s98;refine Xj ?_
    refine wp_cond_false (ev s101) ?_
    refine wp_skip (Xj (wp_seq ?_))
    have I:XI [18,103,105,107,110] (fun L aa D=>(L 1=true→(fun D v=>∃ m12,v=XH r m12∧X0 D w87.heap.size r m12) D (aa.tmps[103]?.getD undef))∧(L 3=true→(fun D v=>∃ A13 c13,v=.slice A13 ms.length c13∧XY 132 2 ZD D w87.heap.size (.slice A13 (ms).length c13) ms) D (aa.tmps[105]?.getD undef))∧(L 5=true→(fun D v=>∃ m14,v=.agg #[.slice m14.A p.length m14.c]∧XL D w87.heap.size p m14) D (aa.tmps[107]?.getD undef))∧(L 8=true→(fun D v=>∃ A15 c15,v=.slice A15 ((Ji r ms p s).length) c15∧XY 3 1 YP D w87.heap.size (.slice A15 (Ji r ms p s).length c15) (Ji r ms p s)) D (aa.tmps[110]?.getD undef))∧(L 9=true→(fun D v=>∃ A15 c15,v=.slice A15 ((Ji r ms p s).length) c15∧XY 3 1 YP D w87.heap.size (.slice A15 (Ji r ms p s).length c15) (Ji r ms p s)) D (aa.tmps[18]?.getD undef))):=by
     intro L aa D w' kk vv hkk hb R
     obtain ⟨x0,x1,x2,x3,x4⟩:=R
     exact ⟨(fun h=>by rw [Xb (hkk 103 (by simp))];obtain ⟨m12',e,f12'⟩:=x0 h;exact ⟨m12',e,f12'.below hb Xu⟩),(fun h=>by rw [Xb (hkk 105 (by simp))];obtain ⟨A13',c13',e,f13'⟩:=x1 h;exact ⟨A13',c13',e,f13'.below hb Xu⟩),(fun h=>by rw [Xb (hkk 107 (by simp))];obtain ⟨m14',e,f14'⟩:=x2 h;exact ⟨m14',e,f14'.below hb Xu⟩),(fun h=>by rw [Xb (hkk 110 (by simp))];obtain ⟨A15',c15',e,f15'⟩:=x3 h;exact ⟨A15',c15',e,f15'.below hb Xu⟩),(fun h=>by rw [Xb (hkk 18 (by simp))];obtain ⟨A15',c15',e,f15'⟩:=x4 h;exact ⟨A15',c15',e,f15'.below hb Xu⟩)⟩
    refine Xx I (by kernel_rfl) [102,103,104,105,106,107,108,109,110,18] [some (XH r r_a),none,some (.slice ms_A ms.length ms_c),none,some (.agg #[.slice p_a.A p.length p_a.c]),none,some (Yz s),some (Yz s),none,none] ([[],[0],[],[0,1,2],[],[0,1,2,3,4],[],[0,1,2,3,4,5,6],[0,1,2,3,4,5,6,7],[0,1,2,3,4,5,6,7,8]]) [102,103,104,105,106,107,108,109,110,18] [0,1,2,3,4,5,6,7,8,9] [] (by kernel_rfl) (by rw [M];decide) ?_ (en rfl ?_ (en rfl ?_ (en rfl ?_ (en rfl ?_ (en rfl ?_ (en rfl ?_ (en rfl ?_ (en rfl ?_ (en rfl ?_ (en rfl ?_ .nil)))))))))) ?_
    ·exact fun _ h=>⟨(fun h=>by cases h),(fun h=>by cases h),(fun h=>by cases h),(fun h=>by cases h),(fun h=>by cases h)⟩
    ·intro O J D H _ _ F
     simp [go_sem,H.f.g rfl s4,(b3.k0 H.k).cell]
     exact (F _ _ H.k rfl (I.q rfl H.x))
    ·intro O J D H _ _ F
     obtain ⟨x0,x1,x2,x3,x4⟩:=H.x
     simp [go_sem,(gS J 102 (H.d 0 rfl rfl))]
     have hBi:=H.k.below0 S
     refine (KE r r_a D (by have:=Xg q8;have:=Xg q19;have:=Xg q30;(try unfold Xf at *);omega) (hs_r.below hBi)).mono ?_
     rintro x wx ⟨m12,rfl,f0,hb⟩
     have f12:=f0.mono H.k.size
     exact (F _ _ (H.k.call hb) trivial ⟨(fun _=>by rw [Xc (H.f.lt (by rw [M];decide))];exact ⟨m12,rfl,f12⟩),(fun h=>by rw [Xb (by decide)];obtain ⟨A13',c13',e,f13'⟩:=x1 h;exact ⟨A13',c13',e,f13'.below hb Xu⟩),(fun h=>by rw [Xb (by decide)];obtain ⟨m14',e,f14'⟩:=x2 h;exact ⟨m14',e,f14'.below hb Xu⟩),(fun h=>by rw [Xb (by decide)];obtain ⟨A15',c15',e,f15'⟩:=x3 h;exact ⟨A15',c15',e,f15'.below hb Xu⟩),(fun h=>by rw [Xb (by decide)];obtain ⟨A15',c15',e,f15'⟩:=x4 h;exact ⟨A15',c15',e,f15'.below hb Xu⟩)⟩)
    ·exact Kn s1 rfl rfl rfl fun _ _ _ _=>I.q rfl
    ·intro O J D H _ _ F
     obtain ⟨x0,x1,x2,x3,x4⟩:=H.x
     simp [go_sem,(gS J 104 (H.d 2 rfl rfl))]
     have hBi:=H.k.below0 S
     refine (JG ms_A ms ms_c D (by have:=Xg q8;have:=Xg q19;have:=Xg q30;(try unfold Xf at *);omega) (hs_ms.below hBi)).mono ?_
     rintro x wx ⟨_,rfl,⟨A13,c13,rfl,f0⟩,hb⟩
     have f13:=XY.mono (show XY 132 2 ZD wx D.heap.size (.slice A13 (ms).length c13) ms from ⟨_,_,rfl,f0⟩) H.k.size
     exact (F _ _ (H.k.call hb) trivial ⟨(fun h=>by rw [Xb (by decide)];obtain ⟨m12',e,f12'⟩:=x0 h;exact ⟨m12',e,f12'.below hb Xu⟩),(fun _=>by rw [Xc (H.f.lt (by rw [M];decide))];exact ⟨A13,c13,rfl,f13⟩),(fun h=>by rw [Xb (by decide)];obtain ⟨m14',e,f14'⟩:=x2 h;exact ⟨m14',e,f14'.below hb Xu⟩),(fun h=>by rw [Xb (by decide)];obtain ⟨A15',c15',e,f15'⟩:=x3 h;exact ⟨A15',c15',e,f15'.below hb Xu⟩),(fun h=>by rw [Xb (by decide)];obtain ⟨A15',c15',e,f15'⟩:=x4 h;exact ⟨A15',c15',e,f15'.below hb Xu⟩)⟩)
    ·intro O J D H _ _ F
     simp [go_sem,H.f.g rfl s6,(b4.k0 H.k).cell]
     exact (F _ _ H.k rfl (I.q rfl H.x))
    ·intro O J D H _ _ F
     obtain ⟨x0,x1,x2,x3,x4⟩:=H.x
     simp [go_sem,(gS J 106 (H.d 4 rfl rfl))]
     have hBi:=H.k.below0 S
     refine (Zw p p_a D (by have:=Xg q8;have:=Xg q19;have:=Xg q30;(try unfold Xf at *);omega) ⟨(hs_p.halves.below hBi)⟩).mono ?_
     rintro x wx ⟨m14,rfl,f0,hb⟩
     have f14:=f0.mono H.k.size
     exact (F _ _ (H.k.call hb) trivial ⟨(fun h=>by rw [Xb (by decide)];obtain ⟨m12',e,f12'⟩:=x0 h;exact ⟨m12',e,f12'.below hb Xu⟩),(fun h=>by rw [Xb (by decide)];obtain ⟨A13',c13',e,f13'⟩:=x1 h;exact ⟨A13',c13',e,f13'.below hb Xu⟩),(fun _=>by rw [Xc (H.f.lt (by rw [M];decide))];exact ⟨m14,rfl,f14⟩),(fun h=>by rw [Xb (by decide)];obtain ⟨A15',c15',e,f15'⟩:=x3 h;exact ⟨A15',c15',e,f15'.below hb Xu⟩),(fun h=>by rw [Xb (by decide)];obtain ⟨A15',c15',e,f15'⟩:=x4 h;exact ⟨A15',c15',e,f15'.below hb Xu⟩)⟩)
    ·intro O J D H _ _ F
     simp [go_sem,H.f.g rfl s7,(b5.k0 H.k).cell]
     exact (F _ _ H.k rfl (I.q rfl H.x))
    ·intro O J D H _ _ F
     simp [go_sem,(gS J 108 (H.d 6 rfl rfl))]
     refine (toSpot_c s D).mono ?_
     rintro x wx ⟨rfl,hb⟩
     exact (F _ _ (H.k.call hb) rfl (I.b rfl hb H.x))
    ·intro O J D H _ _ F
     obtain ⟨x0,x1,x2,x3,x4⟩:=H.x
     obtain ⟨m12,ee1,f12⟩:=x0 (H.r 1 rfl)
     obtain ⟨A13,c13,ee3,f13⟩:=x1 (H.r 3 rfl)
     obtain ⟨m14,ee5,f14⟩:=x2 (H.r 5 rfl)
     simp [go_sem,ee1,ee3,ee5,(gS J 109 (H.d 7 rfl rfl))]
     refine (iSafe_c r ms p s m12 ⟨A13,c13⟩ m14 D (by have:=Xg q8;have:=Xg q19;have:=Xg q30;(try unfold Xf at *);omega) hin_r hin_ms f12.sl f12.nil (by have:=Xg q8;have:=Xg q19;have:=Xg q30;(try unfold Xf at *);omega) hin_p.halves (by have:=Xg q8;have:=Xg q19;have:=Xg q30;(try unfold Xf at *);omega) (f13.out Kl) (f14.halves.out Xz) f14.halves.nilcap hin_s).mono ?_
     rintro x wx ⟨_,rfl,⟨A15,c15,rfl,f0⟩,hb⟩
     have f15:=XY.mono (show XY 3 1 YP wx D.heap.size (.slice A15 (Ji r ms p s).length c15) (Ji r ms p s) from ⟨_,_,rfl,f0⟩) H.k.size
     exact (F _ _ (H.k.call hb) trivial ⟨(fun h=>by rw [Xb (by decide)];obtain ⟨m12',e,f12'⟩:=x0 h;exact ⟨m12',e,f12'.below hb Xu⟩),(fun h=>by rw [Xb (by decide)];obtain ⟨A13',c13',e,f13'⟩:=x1 h;exact ⟨A13',c13',e,f13'.below hb Xu⟩),(fun h=>by rw [Xb (by decide)];obtain ⟨m14',e,f14'⟩:=x2 h;exact ⟨m14',e,f14'.below hb Xu⟩),(fun _=>by rw [Xc (H.f.lt (by rw [M];decide))];exact ⟨A15,c15,rfl,f15⟩),(fun h=>by rw [Xb (by decide)];obtain ⟨A15',c15',e,f15'⟩:=x4 h;exact ⟨A15',c15',e,f15'.below hb Xu⟩)⟩)
    ·intro O J D H _ _ F
     obtain ⟨x0,x1,x2,x3,x4⟩:=H.x
     obtain ⟨A15,c15,ee8,f15⟩:=x3 (H.r 8 rfl)
     exact X1 rfl (ev ee8) (F _ _ H.k trivial ⟨(fun h=>by rw [Xb (by decide)];obtain ⟨m12',e,f12'⟩:=x0 h;exact ⟨m12',e,f12'.below bR Xu⟩),(fun h=>by rw [Xb (by decide)];obtain ⟨A13',c13',e,f13'⟩:=x1 h;exact ⟨A13',c13',e,f13'.below bR Xu⟩),(fun h=>by rw [Xb (by decide)];obtain ⟨m14',e,f14'⟩:=x2 h;exact ⟨m14',e,f14'.below bR Xu⟩),(fun h=>by rw [Xb (by decide)];obtain ⟨A15',c15',e,f15'⟩:=x3 h;exact ⟨A15',c15',e,f15'.below bR Xu⟩),(fun _=>by rw [Xc (H.f.lt (by rw [M];decide))];exact ⟨A15,c15,rfl,f15⟩)⟩)
    intro L a88 w89 T B C P R
    obtain ⟨x0,x1,x2,x3,x4⟩:=R
    replace M:=B.Z M;replace K:=B.E K;replace s10:=B.G s10;replace s14:=B.G s14;replace s16:=B.G s16
    obtain ⟨A15,c15,s18,N15⟩:=x4 (T 9 (by decide))
    replace N4:=N4.below C.toBelow Xu;replace N8:=N8.below C.toBelow Xu;have BL15:BlkL w87.heap.size w89.heap.size [⟨A15,c15⟩]:=N15.blkL;have zw87:=U;have zw89:=C.size;replace U:=Nat.le_refl w89.heap.size;replace S:=C.below0 S;clear B C P T x0 x1 x2 x3 x4 I s1 s4 s6 s7 s101 b3 b4 b5;refine Xj (wp_seq (wp_seq ?_))
    refine Xe (by kernel_rfl) [111,112,113,114] [some (.slice A15 ((Ji r ms p s).length) c15),some (.slice A4 ((Ji r ms p s).length) c4),some (.bool true),some (.bool false)] (X7 4) [111,112,113,114] [0,1,2,3] [] (fun _ _ _=>True) (by kernel_rfl) (by rw [M];decide) ?_ (en rfl ?_ (en rfl ?_ (en rfl ?_ (en rfl ?_ .nil)))) ?_
    ·exact fun _ _=>trivial
    ·exact YA s18 rfl rfl rfl
    ·exact YA s10 rfl rfl rfl
    ·intro O J D H _ _ F
     simp [go_sem,(gS J 111 (H.d 0 rfl rfl)),(gS J 112 (H.d 1 rfl rfl))]
     refine (eqIntS_t A15 A4 (Ji r ms p s) c15 c4 D (by have:=Xg q8;have:=Xg q19;have:=Xg q30;(try unfold Xf at *);omega) ((N15.below H.k.toBelow Xu).out Yv) ((N4.below H.k.toBelow Xu).out Yv)).mono ?_
     rintro x wx ⟨rfl,hb⟩
     exact (F _ _ (H.k.call hb) rfl trivial)
    ·exact Jn 2 rfl rfl rfl rfl
    intro L a90 w91 T B C P R;replace M:=B.Z M;replace K:=B.E K;replace s14:=B.G s14;replace s16:=B.G s16;have s114:=gS a90 114 (P 3 _ rfl);replace N8:=N8.below C.toBelow Xu;replace U:=Nat.le_trans U C.size;replace S:=C.below0 S;clear B C P T R s10 s18 N4 N15;refine Xj ?_
    refine wp_cond_false (ev s114) ?_
    refine wp_skip (Xj (wp_seq ?_))
    refine Xe (by kernel_rfl) [17] [some (.int .i64 1)] (X7 1) [17] [0] [] (fun _ _ _=>True) (by kernel_rfl) (by rw [M];decide) ?_ (en rfl ?_ .nil) ?_
    ·exact fun _ _=>trivial
    ·exact Kk rfl rfl
    intro L a92 w93 T B C P R;replace M:=B.Z M;replace K:=B.E K;replace s14:=B.G s14;replace s16:=B.G s16;have s17:=gS a92 17 (P 0 _ rfl);replace N8:=N8.below C.toBelow Xu;replace U:=Nat.le_trans U C.size;replace S:=C.below0 S;clear B C P T R s114;refine Xj (wp_seq ?_)
    have I:XI [17] (fun L aa D=>(L 3=false→aa.tmps[17]?.getD undef=.int .i64 1)):=by
     intro L aa D w' kk vv hkk hb R
     have x0:=R
     exact (fun h=>(Xb (hkk 17 (by simp)) vv).trans (x0 h))
    refine Xx I (by kernel_rfl) [115,116,117,17] [some (.slice A8 ((Ji r ms p s).length) c8),some (.int .i64 1),some (.int .i64 (1+(((Ji r ms p s).length:Nat):Int))),some (.int .i64 (1+(((Ji r ms p s).length:Nat):Int)))] (X7 4) [115,116,117,17] [0,1,2,3] [] (by kernel_rfl) (by rw [M];decide) ?_ (en rfl ?_ (en rfl ?_ (en rfl ?_ (en rfl ?_ .nil)))) ?_
    ·exact fun _ h=>(fun _=>s17)
    ·exact fun O J D H _ _ F=>XF rfl (ev (H.f.g rfl s14)) (F _ _ H.k rfl (I O J D _ (some 115) _ (by simp) bR H.x))
    ·intro O J D H _ _ F
     have x0:=H.x
     exact XF rfl (ev (x0 (H.t 3 rfl))) (F _ _ H.k rfl (I O J D _ (some 116) _ (by simp) bR H.x))
    ·intro O J D H _ _ F
     simp [go_sem,(gS J 115 (H.d 0 rfl rfl)),(gS J 116 (H.d 1 rfl rfl))]
     refine (heldIntS_c A8 (Ji r ms p s).length c8 1 D (by omega) (by omega) (by omega) ((N8.below H.k.toBelow Xu).out Yv)).mono ?_
     rintro x wx ⟨rfl,rfl⟩
     exact (F _ _ H.k rfl (I O J D _ (some 117) _ (by simp) bR H.x))
    ·intro O J D H _ _ F
     have x0:=H.x
     exact X1 rfl (ev (H.d 2 rfl rfl)) (F _ _ H.k rfl (fun h=>by simp [ZB] at h))
    intro L a94 w95 T B C P R;have x0:=R;replace M:=B.Z M;replace K:=B.E K;replace s16:=B.G s16;have s17:=gS a94 17 (P 3 _ rfl);replace U:=Nat.le_trans U C.size;replace S:=C.below0 S;clear B C P T x0 I s14 N8
    have hneg96:decide (1+(((Ji r ms p s).length:Nat):Int)<0)=false:=decide_eq_false (by omega)
    refine Xj (wp_seq (wp_seq ?_))
    refine Xe (by kernel_rfl) [118,119] [some (.int .i64 (1+(((Ji r ms p s).length:Nat):Int))),some (.bool false)] (X7 2) [118,119] [0,1] [] (fun _ _ _=>True) (by kernel_rfl) (by rw [M];decide) ?_ (en rfl ?_ (en rfl ?_ .nil)) ?_
    ·exact fun _ _=>trivial
    ·exact YA s17 rfl rfl rfl
    ·exact fun O J D H _ _ F=>Yc rfl (ev (H.d 0 rfl rfl)) rfl rfl rfl (F _ _ H.k (congrArg Value.bool hneg96) trivial)
    intro L a97 w98 T B C P R;replace M:=B.Z M;replace K:=B.E K;replace s16:=B.G s16;replace s17:=B.G s17;have s119:=gS a97 119 (P 1 _ rfl);replace U:=Nat.le_trans U C.size;replace S:=C.below0 S;clear B C P T R;refine Xj ?_
    refine wp_cond_false (ev s119) ?_
    refine wp_skip (Xj (wp_seq (wp_seq ?_)))
    refine Xe (by kernel_rfl) [120,121,122] [some (.int .i64 (1+(((Ji r ms p s).length:Nat):Int))),some (.int .i64 (1+(((Ji r ms p s).length:Nat):Int))),some (.bool false)] (X7 3) [120,121,122] [0,1,2] [] (fun _ _ _=>True) (by kernel_rfl) (by rw [M];decide) ?_ (en rfl ?_ (en rfl ?_ (en rfl ?_ .nil))) ?_
    ·exact fun _ _=>trivial
    ·exact YA s17 rfl rfl rfl
    ·exact YA s16 rfl rfl rfl
    ·intro O J D H _ _ F
     simp [go_sem,(gS J 120 (H.d 0 rfl rfl)),(gS J 121 (H.d 1 rfl rfl))]
     exact (F _ _ H.k rfl trivial)
    intro L a99 w100 T B C P R;replace M:=B.Z M;replace K:=B.E K;have s122:=gS a99 122 (P 2 _ rfl);replace U:=Nat.le_trans U C.size;replace S:=C.below0 S;clear B C P T R s16 s17 s119;refine Xj ?_
    refine wp_cond_false (ev s122) ?_
    refine wp_skip (Xj (wp_seq ?_))
    refine Xe (by kernel_rfl) [8] [some (.bool true)] (X7 1) [8] [0] [] (fun _ _ _=>True) (by kernel_rfl) (by rw [M];decide) ?_ (en rfl ?_ .nil) ?_
    ·exact fun _ _=>trivial
    ·exact Kk rfl rfl
    intro L a101 w102 T B C P R;replace M:=B.Z M;replace K:=B.E K;have s8:=gS a101 8 (P 0 _ rfl);replace U:=Nat.le_trans U C.size;replace S:=C.below0 S;clear B C P T R s122;refine Xj (wp_ret ?_)
    refine bodyPost_ret (v:=.bool true) (by simp [results,Tryz.results3,go_sem,s8]) K ?_
    exact ⟨rfl,S⟩
end Go.Proofs.YtkjimfapbjdafaaGreat
