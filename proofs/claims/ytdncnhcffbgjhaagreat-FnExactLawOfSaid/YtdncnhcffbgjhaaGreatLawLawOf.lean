/-
 For every input FnExactLawOf returns true: the program's LawOf and the reference's agree.
 Conditions: none.
-/
import Derived.Test.YtdncnhcffbgjhaaGreatLw2
import Derived.Test.YtdncnhcffbgjhaaGreatGrXd
import Derived.Test.YtdncnhcffbgjhaaGreatGrO
import Derived.Test.YtdncnhcffbgjhaaGreatLat
import Derived.Test.YtdncnhcffbgjhaaGreatInv2
namespace Go.Proofs.YtdncnhcffbgjhaaGreat
open Go.RowKit Go.ChangeShapes Go.WideShapes Go.ChangeAt Go.Deep
set_option maxRecDepth 100000 in
set_option maxHeartbeats 16000000 in
theorem walkLawOf (w:World) (r:Room) (r_a:RoomA) (hin_r:RoomIn r) (hl_r:List.length r.map≤9223372036854775807∧List.length r.noise≤9223372036854775807∧List.length r.limits≤9223372036854775807) (hs_r:RoomSl w r r_a) (p:List Half) (p_a:SlA) (hin_p:RegionIn p) (hl_p:List.length p≤9223372036854775807) (hs_p:RegionSl w p p_a) :
 Calls Tryz.prog 3 #[roomV r r_a,.agg #[.slice p_a.A p.length p_a.c]] w fun e w'=>e=.returned (.bool true)∧Below w.heap.size w w':=by
 have hlr:=lofR_le r p
 have hlu:=hlr
 unfold lawLen at hlu
 refine calls_v Tryz.func3 rfl (n:=119) Tryz.ntmps3 (by simp) ?_
 intro a0 hz hdf ha
 have s0:a0.tmps[0]?.getD undef=roomV r r_a:=ha 0 _ rfl;have s1:a0.tmps[1]?.getD undef=.agg #[.slice p_a.A p.length p_a.c]:=ha 1 _ rfl;clear ha
 have hB:=Below.refl w.heap.size w
 have hZ:=Nat.le_refl w.heap.size
 refine wp_seq ?_
 refine wp_entry [2,3,4] [.pointer (some ⟨w.heap.size,0,none⟩),.pointer (some ⟨(w.heap.size+1),0,none⟩),.bool false] [some (.cells (roomC r r_a).toArray 27),some (.cells [.slice p_a.A p.length p_a.c].toArray 25),none] [0,1,2] [2,3,4] [0,1,2] (by kernel_rfl) (by rw [hz];decide) (ec ?_ (ec ?_ (ec ?_ .nil))) ?_
 ·intro a w' hF hs N Q hN;simp [go_sem,hF.g rfl s0];rw [hs];exact hN
 ·intro a w' hF hs N Q hN;simp [go_sem,hF.g rfl s1];rw [hs];exact hN
 ·intro a w' hF hs N Q hN;simp [go_sem];exact hN
 intro a1 w2 hF hV hb hO
 replace hz:=hF.size.trans hz;replace hdf:=hF.defers.trans hdf
 have s2:a1.tmps[2]?.getD undef=.pointer (some ⟨w.heap.size,0,none⟩):=hV 0 (by decide)
 have s3:a1.tmps[3]?.getD undef=.pointer (some ⟨(w.heap.size+1),0,none⟩):=hV 1 (by decide)
 have b3:HasT w2 w.heap.size 27 (roomC r r_a):=hO 0 _ rfl
 have b4:HasT w2 (w.heap.size+1) 25 [.slice p_a.A p.length p_a.c]:=hO 1 _ rfl
 have hG:=b4.lt
 replace hB:=below_tr hB hb;have zw2:=Nat.le_trans hZ hb.size;replace hZ:=Nat.le_refl w2.heap.size;clear hF hV hb hO s0 s1;refine th_n ?_;refine wp_seq ?_
 refine wp_regJ (by kernel_rfl) [5] [some (.int .i64 1048576)] (dlR 1) [5] [0] [] (fun _ _ _=>True) (by kernel_rfl) (by rw [hz];decide) ?_ (en rfl ?_ .nil) ?_
 ·exact fun _ _=>trivial
 ·exact fun Lk ak ww H _ _ hN=>wp_assign rfl rfl (hN _ _ H.k rfl trivial)
 intro L a5 w6 hL hF hK hV hX;replace hz:=hF.Z hz;replace hdf:=hF.E hdf;replace s2:=hF.G s2;replace s3:=hF.G s3;have s5:=gS a5 5 (hV 0 _ rfl);replace b3:=b3.k0 hK;replace b4:=b4.k0 hK;replace hZ:=Nat.le_trans hZ hK.size;replace hB:=hK.below0 hB;clear hF hK hV hL hX;refine th_n ?_;refine wp_seq ?_
 rcases Bool.eq_false_or_eq_true (decide (1048576-((roomLen r:Nat):Int)<0)) with q7|q7
 ·skip
  have hXb:StaysX [5] (fun L aa ww=>(L 3=false→aa.tmps[5]?.getD undef=.int .i64 1048576)):=by
   intro L aa ww w' kk vv hkk hb hX
   have x0:=hX
   exact (fun h=>(put_ne' (hkk 5 (by simp)) vv).trans (x0 h))
  refine wp_regK hXb (by kernel_rfl) [17,18,19,5] [some (roomV r r_a),some (.int .i64 1048576),some (.int .i64 (-1)),some (.int .i64 (-1))] (dlR 4) [17,18,19,5] [0,1,2,3] [] (by kernel_rfl) (by rw [hz];decide) ?_ (en rfl ?_ (en rfl ?_ (en rfl ?_ (en rfl ?_ .nil)))) ?_
  ·exact fun _ h=>(fun _=>s5)
  ·intro Lk ak ww H _ _ hN
   simp [go_sem,H.f.g rfl s2,(b3.k0 H.k).cell]
   exact (hN _ _ H.k rfl (hXb Lk ak ww _ (some 17) _ (by simp) bR H.x))
  ·intro Lk ak ww H _ _ hN
   have x0:=H.x
   exact wp_move rfl (ev (x0 (H.t 3 rfl))) (hN _ _ H.k rfl (hXb Lk ak ww _ (some 18) _ (by simp) bR H.x))
  ·intro Lk ak ww H _ _ hN
   simp [go_sem,(gS ak 17 (H.d 0 rfl rfl)),(gS ak 18 (H.d 1 rfl rfl))]
   refine (szRoom_c r r_a 1048576 ww hl_r (by omega) (by omega)).mono ?_
   rintro x wx ⟨rfl,hb⟩
   exact (hN _ _ (H.k.call hb) (congrArg (Value.int .i64) (if_pos (dec_t q7))) (hXb Lk ak ww _ (some 19) _ (by simp) hb H.x))
  ·intro Lk ak ww H _ _ hN
   have x0:=H.x
   exact wp_assign rfl (ev (H.d 2 rfl rfl)) (hN _ _ H.k rfl (fun h=>by simp [upd] at h))
  intro L a8 w9 hL hF hK hV hX;have x0:=hX;replace hz:=hF.Z hz;replace hdf:=hF.E hdf;replace s2:=hF.G s2;replace s3:=hF.G s3;have s5:=gS a8 5 (hV 3 _ rfl);replace b3:=b3.k0 hK;replace b4:=b4.k0 hK;replace hZ:=Nat.le_trans hZ hK.size;replace hB:=hK.below0 hB;clear hF hK hV hL x0 hXb;refine th_n ?_;refine wp_seq ?_;refine wp_seq ?_
  refine wp_regJ (by kernel_rfl) [20,21] [some (.int .i64 (-1)),some (.bool true)] (dlR 2) [20,21] [0,1] [] (fun _ _ _=>True) (by kernel_rfl) (by rw [hz];decide) ?_ (en rfl ?_ (en rfl ?_ .nil)) ?_
  ·exact fun _ _=>trivial
  ·exact fun Lk ak ww H _ _ hN=>wp_move rfl (ev (H.f.g rfl s5)) (hN _ _ H.k rfl trivial)
  ·exact fun Lk ak ww H _ _ hN=>wp_bin rfl (ev (H.d 0 rfl rfl)) rfl rfl rfl (hN _ _ H.k rfl trivial)
  intro L a10 w11 hL hF hK hV hX;replace hz:=hF.Z hz;replace hdf:=hF.E hdf;replace s2:=hF.G s2;replace s3:=hF.G s3;replace s5:=hF.G s5;have s21:=gS a10 21 (hV 1 _ rfl);replace b3:=b3.k0 hK;replace b4:=b4.k0 hK;replace hZ:=Nat.le_trans hZ hK.size;replace hB:=hK.below0 hB;clear hF hK hV hL hX;refine th_n ?_
  refine wp_cond_true (ev s21) ?_
  refine wp_seq ?_
  refine wp_regJ (by kernel_rfl) [4] [some (.bool true)] (dlR 1) [4] [0] [] (fun _ _ _=>True) (by kernel_rfl) (by rw [hz];decide) ?_ (en rfl ?_ .nil) ?_
  ·exact fun _ _=>trivial
  ·exact fun Lk ak ww H _ _ hN=>wp_assign rfl rfl (hN _ _ H.k rfl trivial)
  intro L a12 w13 hL hF hK hV hX;replace hz:=hF.Z hz;replace hdf:=hF.E hdf;have s4:=gS a12 4 (hV 0 _ rfl);replace hZ:=Nat.le_trans hZ hK.size;replace hB:=hK.below0 hB;clear hF hK hV hL hX s2 s3 s5 s21 b3 b4;refine th_n ?_
  refine wp_ret ?_
  refine th_r ?_
  refine bodyPost_ret (v:=.bool true) (by simp [results,Tryz.results3,go_sem,s4]) hdf ?_
  exact ⟨rfl,hB⟩
 ·skip
  have hXb:StaysX [5] (fun L aa ww=>(L 3=false→aa.tmps[5]?.getD undef=.int .i64 1048576)):=by
   intro L aa ww w' kk vv hkk hb hX
   have x0:=hX
   exact (fun h=>(put_ne' (hkk 5 (by simp)) vv).trans (x0 h))
  refine wp_regK hXb (by kernel_rfl) [17,18,19,5] [some (roomV r r_a),some (.int .i64 1048576),some (.int .i64 (1048576-((roomLen r:Nat):Int))),some (.int .i64 (1048576-((roomLen r:Nat):Int)))] (dlR 4) [17,18,19,5] [0,1,2,3] [] (by kernel_rfl) (by rw [hz];decide) ?_ (en rfl ?_ (en rfl ?_ (en rfl ?_ (en rfl ?_ .nil)))) ?_
  ·exact fun _ h=>(fun _=>s5)
  ·intro Lk ak ww H _ _ hN
   simp [go_sem,H.f.g rfl s2,(b3.k0 H.k).cell]
   exact (hN _ _ H.k rfl (hXb Lk ak ww _ (some 17) _ (by simp) bR H.x))
  ·intro Lk ak ww H _ _ hN
   have x0:=H.x
   exact wp_move rfl (ev (x0 (H.t 3 rfl))) (hN _ _ H.k rfl (hXb Lk ak ww _ (some 18) _ (by simp) bR H.x))
  ·intro Lk ak ww H _ _ hN
   simp [go_sem,(gS ak 17 (H.d 0 rfl rfl)),(gS ak 18 (H.d 1 rfl rfl))]
   refine (szRoom_c r r_a 1048576 ww hl_r (by omega) (by omega)).mono ?_
   rintro x wx ⟨rfl,hb⟩
   exact (hN _ _ (H.k.call hb) (congrArg (Value.int .i64) (if_neg (dec_f q7))) (hXb Lk ak ww _ (some 19) _ (by simp) hb H.x))
  ·intro Lk ak ww H _ _ hN
   have x0:=H.x
   exact wp_assign rfl (ev (H.d 2 rfl rfl)) (hN _ _ H.k rfl (fun h=>by simp [upd] at h))
  intro L a14 w15 hL hF hK hV hX;have x0:=hX;replace hz:=hF.Z hz;replace hdf:=hF.E hdf;replace s2:=hF.G s2;replace s3:=hF.G s3;have s5:=gS a14 5 (hV 3 _ rfl);replace b3:=b3.k0 hK;replace b4:=b4.k0 hK;replace hZ:=Nat.le_trans hZ hK.size;replace hB:=hK.below0 hB;clear hF hK hV hL x0 hXb;refine th_n ?_;refine wp_seq ?_;refine wp_seq ?_
  refine wp_regJ (by kernel_rfl) [20,21] [some (.int .i64 (1048576-((roomLen r:Nat):Int))),some (.bool (decide (1048576-((roomLen r:Nat):Int)<0)))] (dlR 2) [20,21] [0,1] [] (fun _ _ _=>True) (by kernel_rfl) (by rw [hz];decide) ?_ (en rfl ?_ (en rfl ?_ .nil)) ?_
  ·exact fun _ _=>trivial
  ·exact fun Lk ak ww H _ _ hN=>wp_move rfl (ev (H.f.g rfl s5)) (hN _ _ H.k rfl trivial)
  ·exact fun Lk ak ww H _ _ hN=>wp_bin rfl (ev (H.d 0 rfl rfl)) rfl rfl rfl (hN _ _ H.k rfl trivial)
  intro L a16 w17 hL hF hK hV hX;replace hz:=hF.Z hz;replace hdf:=hF.E hdf;replace s2:=hF.G s2;replace s3:=hF.G s3;replace s5:=hF.G s5;have s21:=gS a16 21 (hV 1 _ rfl);replace b3:=b3.k0 hK;replace b4:=b4.k0 hK;replace hZ:=Nat.le_trans hZ hK.size;replace hB:=hK.below0 hB;clear hF hK hV hL hX;refine th_n ?_
  refine wp_cond_false (ev (vb s21 q7)) ?_
  refine wp_skip ?_;refine th_n ?_;refine wp_seq ?_
  rcases Bool.eq_false_or_eq_true (decide (1048576-((roomLen r:Nat):Int)-((regionLen p:Nat):Int)<0)) with q18|q18
  ·skip
   have hXb:StaysX [5] (fun L aa ww=>(L 3=false→aa.tmps[5]?.getD undef=.int .i64 (1048576-((roomLen r:Nat):Int)))):=by
    intro L aa ww w' kk vv hkk hb hX
    have x0:=hX
    exact (fun h=>(put_ne' (hkk 5 (by simp)) vv).trans (x0 h))
   refine wp_regK hXb (by kernel_rfl) [22,23,24,5] [some (.agg #[.slice p_a.A p.length p_a.c]),some (.int .i64 (1048576-((roomLen r:Nat):Int))),some (.int .i64 (-1)),some (.int .i64 (-1))] (dlR 4) [22,23,24,5] [0,1,2,3] [] (by kernel_rfl) (by rw [hz];decide) ?_ (en rfl ?_ (en rfl ?_ (en rfl ?_ (en rfl ?_ .nil)))) ?_
   ·exact fun _ h=>(fun _=>s5)
   ·intro Lk ak ww H _ _ hN
    simp [go_sem,H.f.g rfl s3,(b4.k0 H.k).cell]
    exact (hN _ _ H.k rfl (hXb Lk ak ww _ (some 22) _ (by simp) bR H.x))
   ·intro Lk ak ww H _ _ hN
    have x0:=H.x
    exact wp_move rfl (ev (x0 (H.t 3 rfl))) (hN _ _ H.k rfl (hXb Lk ak ww _ (some 23) _ (by simp) bR H.x))
   ·intro Lk ak ww H _ _ hN
    simp [go_sem,(gS ak 22 (H.d 0 rfl rfl)),(gS ak 23 (H.d 1 rfl rfl))]
    refine (szRegion_c p p_a (1048576-((roomLen r:Nat):Int)) ww hl_p (by have:=dec_f q7;omega) (by have:=dec_f q7;omega)).mono ?_
    rintro x wx ⟨rfl,hb⟩
    exact (hN _ _ (H.k.call hb) (congrArg (Value.int .i64) (if_pos (dec_t q18))) (hXb Lk ak ww _ (some 24) _ (by simp) hb H.x))
   ·intro Lk ak ww H _ _ hN
    have x0:=H.x
    exact wp_assign rfl (ev (H.d 2 rfl rfl)) (hN _ _ H.k rfl (fun h=>by simp [upd] at h))
   intro L a19 w20 hL hF hK hV hX;have x0:=hX;replace hz:=hF.Z hz;replace hdf:=hF.E hdf;replace s2:=hF.G s2;replace s3:=hF.G s3;have s5:=gS a19 5 (hV 3 _ rfl);replace b3:=b3.k0 hK;replace b4:=b4.k0 hK;replace hZ:=Nat.le_trans hZ hK.size;replace hB:=hK.below0 hB;clear hF hK hV hL x0 hXb s21;refine th_n ?_;refine wp_seq ?_;refine wp_seq ?_
   refine wp_regJ (by kernel_rfl) [25,26] [some (.int .i64 (-1)),some (.bool true)] (dlR 2) [25,26] [0,1] [] (fun _ _ _=>True) (by kernel_rfl) (by rw [hz];decide) ?_ (en rfl ?_ (en rfl ?_ .nil)) ?_
   ·exact fun _ _=>trivial
   ·exact fun Lk ak ww H _ _ hN=>wp_move rfl (ev (H.f.g rfl s5)) (hN _ _ H.k rfl trivial)
   ·exact fun Lk ak ww H _ _ hN=>wp_bin rfl (ev (H.d 0 rfl rfl)) rfl rfl rfl (hN _ _ H.k rfl trivial)
   intro L a21 w22 hL hF hK hV hX;replace hz:=hF.Z hz;replace hdf:=hF.E hdf;replace s2:=hF.G s2;replace s3:=hF.G s3;have s26:=gS a21 26 (hV 1 _ rfl);replace b3:=b3.k0 hK;replace b4:=b4.k0 hK;replace hZ:=Nat.le_trans hZ hK.size;replace hB:=hK.below0 hB;clear hF hK hV hL hX s5;refine th_n ?_
   refine wp_cond_true (ev s26) ?_
   refine wp_seq ?_
   refine wp_regJ (by kernel_rfl) [4] [some (.bool true)] (dlR 1) [4] [0] [] (fun _ _ _=>True) (by kernel_rfl) (by rw [hz];decide) ?_ (en rfl ?_ .nil) ?_
   ·exact fun _ _=>trivial
   ·exact fun Lk ak ww H _ _ hN=>wp_assign rfl rfl (hN _ _ H.k rfl trivial)
   intro L a23 w24 hL hF hK hV hX;replace hz:=hF.Z hz;replace hdf:=hF.E hdf;have s4:=gS a23 4 (hV 0 _ rfl);replace hZ:=Nat.le_trans hZ hK.size;replace hB:=hK.below0 hB;clear hF hK hV hL hX s2 s3 s26 b3 b4;refine th_n ?_
   refine wp_ret ?_
   refine th_r ?_
   refine bodyPost_ret (v:=.bool true) (by simp [results,Tryz.results3,go_sem,s4]) hdf ?_
   exact ⟨rfl,hB⟩
  ·skip
   have hXb:StaysX [5] (fun L aa ww=>(L 3=false→aa.tmps[5]?.getD undef=.int .i64 (1048576-((roomLen r:Nat):Int)))):=by
    intro L aa ww w' kk vv hkk hb hX
    have x0:=hX
    exact (fun h=>(put_ne' (hkk 5 (by simp)) vv).trans (x0 h))
   refine wp_regK hXb (by kernel_rfl) [22,23,24,5] [some (.agg #[.slice p_a.A p.length p_a.c]),some (.int .i64 (1048576-((roomLen r:Nat):Int))),some (.int .i64 (1048576-((roomLen r:Nat):Int)-((regionLen p:Nat):Int))),some (.int .i64 (1048576-((roomLen r:Nat):Int)-((regionLen p:Nat):Int)))] (dlR 4) [22,23,24,5] [0,1,2,3] [] (by kernel_rfl) (by rw [hz];decide) ?_ (en rfl ?_ (en rfl ?_ (en rfl ?_ (en rfl ?_ .nil)))) ?_
   ·exact fun _ h=>(fun _=>s5)
   ·intro Lk ak ww H _ _ hN
    simp [go_sem,H.f.g rfl s3,(b4.k0 H.k).cell]
    exact (hN _ _ H.k rfl (hXb Lk ak ww _ (some 22) _ (by simp) bR H.x))
   ·intro Lk ak ww H _ _ hN
    have x0:=H.x
    exact wp_move rfl (ev (x0 (H.t 3 rfl))) (hN _ _ H.k rfl (hXb Lk ak ww _ (some 23) _ (by simp) bR H.x))
   ·intro Lk ak ww H _ _ hN
    simp [go_sem,(gS ak 22 (H.d 0 rfl rfl)),(gS ak 23 (H.d 1 rfl rfl))]
    refine (szRegion_c p p_a (1048576-((roomLen r:Nat):Int)) ww hl_p (by have:=dec_f q7;omega) (by have:=dec_f q7;omega)).mono ?_
    rintro x wx ⟨rfl,hb⟩
    exact (hN _ _ (H.k.call hb) (congrArg (Value.int .i64) (if_neg (dec_f q18))) (hXb Lk ak ww _ (some 24) _ (by simp) hb H.x))
   ·intro Lk ak ww H _ _ hN
    have x0:=H.x
    exact wp_assign rfl (ev (H.d 2 rfl rfl)) (hN _ _ H.k rfl (fun h=>by simp [upd] at h))
   intro L a25 w26 hL hF hK hV hX;have x0:=hX;replace hz:=hF.Z hz;replace hdf:=hF.E hdf;replace s2:=hF.G s2;replace s3:=hF.G s3;have s5:=gS a25 5 (hV 3 _ rfl);replace b3:=b3.k0 hK;replace b4:=b4.k0 hK;replace hZ:=Nat.le_trans hZ hK.size;replace hB:=hK.below0 hB;clear hF hK hV hL x0 hXb s21;refine th_n ?_;refine wp_seq ?_;refine wp_seq ?_
   refine wp_regJ (by kernel_rfl) [25,26] [some (.int .i64 (1048576-((roomLen r:Nat):Int)-((regionLen p:Nat):Int))),some (.bool (decide (1048576-((roomLen r:Nat):Int)-((regionLen p:Nat):Int)<0)))] (dlR 2) [25,26] [0,1] [] (fun _ _ _=>True) (by kernel_rfl) (by rw [hz];decide) ?_ (en rfl ?_ (en rfl ?_ .nil)) ?_
   ·exact fun _ _=>trivial
   ·exact fun Lk ak ww H _ _ hN=>wp_move rfl (ev (H.f.g rfl s5)) (hN _ _ H.k rfl trivial)
   ·exact fun Lk ak ww H _ _ hN=>wp_bin rfl (ev (H.d 0 rfl rfl)) rfl rfl rfl (hN _ _ H.k rfl trivial)
   intro L a27 w28 hL hF hK hV hX;replace hz:=hF.Z hz;replace hdf:=hF.E hdf;replace s2:=hF.G s2;replace s3:=hF.G s3;have s26:=gS a27 26 (hV 1 _ rfl);replace b3:=b3.k0 hK;replace b4:=b4.k0 hK;replace hZ:=Nat.le_trans hZ hK.size;replace hB:=hK.below0 hB;clear hF hK hV hL hX s5;refine th_n ?_
   refine wp_cond_false (ev (vb s26 q18)) ?_
   refine wp_skip ?_;refine th_n ?_;refine wp_seq ?_
   have hXb:StaysX [6,27,29,31,32,33] (fun L aa ww=>(L 1=true→(fun ww v=>∃ m1,v=roomV r m1∧RoomNew ww w28.heap.size r m1) ww (aa.tmps[29]?.getD undef))∧(L 3=true→(fun ww v=>∃ m2,v=.agg #[.slice m2.A p.length m2.c]∧RegionNew ww w28.heap.size p m2) ww (aa.tmps[31]?.getD undef))∧(L 4=true→(fun ww v=>∃ la3,v=.tuple #[.agg #[.slice la3.lows.A ((lofR r p).lows.length) la3.lows.c,.slice la3.highs.A ((lofR r p).highs.length) la3.highs.c],.bool (lofOk r p)]∧LawNew ww w28.heap.size (lofR r p) la3) ww (aa.tmps[32]?.getD undef))∧(L 5=true→(fun ww v=>∃ la3,v=.tuple #[.agg #[.slice la3.lows.A ((lofR r p).lows.length) la3.lows.c,.slice la3.highs.A ((lofR r p).highs.length) la3.highs.c],.bool (lofOk r p)]∧LawNew ww w28.heap.size (lofR r p) la3) ww (aa.tmps[27]?.getD undef))∧(L 6=true→(fun ww v=>∃ la3,v=.agg #[.slice la3.lows.A ((lofR r p).lows.length) la3.lows.c,.slice la3.highs.A ((lofR r p).highs.length) la3.highs.c]∧LawNew ww w28.heap.size (lofR r p) la3) ww (aa.tmps[33]?.getD undef))∧(L 8=true→BoxX w28 aa ww 6 32 [.slice none 0 0,.slice none 0 0] (L 9) (fun ww vs=>∃ la3,vs=[.slice la3.lows.A ((lofR r p).lows.length) la3.lows.c,.slice la3.highs.A ((lofR r p).highs.length) la3.highs.c]∧LawNew ww w28.heap.size (lofR r p) la3))):=by
    intro L aa ww w' kk vv hkk hb hX
    obtain ⟨x0,x1,x2,x3,x4,x5⟩:=hX
    exact ⟨(fun h=>by rw [put_ne' (hkk 29 (by simp))];obtain ⟨m1',e,f1'⟩:=x0 h;exact ⟨m1',e,f1'.below hb leR⟩),(fun h=>by rw [put_ne' (hkk 31 (by simp))];obtain ⟨m2',e,f2'⟩:=x1 h;exact ⟨m2',e,f2'.below hb leR⟩),(fun h=>by rw [put_ne' (hkk 32 (by simp))];obtain ⟨la3',e,f3'⟩:=x2 h;exact ⟨la3',e,f3'.below hb leR⟩),(fun h=>by rw [put_ne' (hkk 27 (by simp))];obtain ⟨la3',e,f3'⟩:=x3 h;exact ⟨la3',e,f3'.below hb leR⟩),(fun h=>by rw [put_ne' (hkk 33 (by simp))];obtain ⟨la3',e,f3'⟩:=x4 h;exact ⟨la3',e,f3'.below hb leR⟩),(fun h=>((x5 h).bel hb (fun _ ⟨la3',e,f3'⟩=>⟨la3',e,f3'.below hb leR⟩)).put (hkk 6 (by simp)) _)⟩
   refine wp_regK hXb (by kernel_rfl) [28,29,30,31,32,27,33,34,6,0,7] [some (roomV r r_a),none,some (.agg #[.slice p_a.A p.length p_a.c]),none,none,none,none,some (.bool (lofOk r p)),none,none,some (.bool (lofOk r p))] ([[],[0],[],[0,1,2],[0,1,2,3],[0,1,2,3,4],[0,1,2,3,4,5],[0,1,2,3,4,5],[],[0,1,2,3,4,5,6,8],[0,1,2,3,4,5,6,7,8,9]]) [28,29,30,31,32,27,33,34,6,7] [0,1,2,3,4,5,6,7,8,9,10] [] (by kernel_rfl) (by rw [hz];decide) ?_ (en rfl ?_ (en rfl ?_ (en rfl ?_ (en rfl ?_ (en rfl ?_ (en rfl ?_ (en rfl ?_ (en rfl ?_ (en rfl ?_ (en rfl ?_ (en rfl ?_ .nil))))))))))) ?_
   ·exact fun _ h=>⟨(fun h=>by cases h),(fun h=>by cases h),(fun h=>by cases h),(fun h=>by cases h),(fun h=>by cases h),(fun h=>by cases h)⟩
   ·intro Lk ak ww H _ _ hN
    simp [go_sem,H.f.g rfl s2,(b3.k0 H.k).cell]
    exact (hN _ _ H.k rfl (hXb.q rfl H.x))
   ·intro Lk ak ww H _ _ hN
    obtain ⟨x0,x1,x2,x3,x4,x5⟩:=H.x
    simp [go_sem,(gS ak 28 (H.d 0 rfl rfl))]
    have hBi:=H.k.below0 hB
    refine (toRoom_c r r_a ww (by have:=dec_f q7;have:=dec_f q18;(try unfold regionLen at *);omega) (hs_r.below hBi)).mono ?_
    rintro x wx ⟨m1,rfl,f0,hb⟩
    have f1:=f0.mono H.k.size
    exact (hN _ _ (H.k.call hb) trivial ⟨(fun _=>by rw [put_get_self (H.f.lt (by rw [hz];decide))];exact ⟨m1,rfl,f1⟩),(fun h=>by rw [put_ne' (by decide)];obtain ⟨m2',e,f2'⟩:=x1 h;exact ⟨m2',e,f2'.below hb leR⟩),(fun h=>by rw [put_ne' (by decide)];obtain ⟨la3',e,f3'⟩:=x2 h;exact ⟨la3',e,f3'.below hb leR⟩),(fun h=>by rw [put_ne' (by decide)];obtain ⟨la3',e,f3'⟩:=x3 h;exact ⟨la3',e,f3'.below hb leR⟩),(fun h=>by rw [put_ne' (by decide)];obtain ⟨la3',e,f3'⟩:=x4 h;exact ⟨la3',e,f3'.below hb leR⟩),(fun h=>((x5 h).bel hb (fun _ ⟨la3',e,f3'⟩=>⟨la3',e,f3'.below hb leR⟩)).put (by decide) _)⟩)
   ·intro Lk ak ww H _ _ hN
    simp [go_sem,H.f.g rfl s3,(b4.k0 H.k).cell]
    exact (hN _ _ H.k rfl (hXb.q rfl H.x))
   ·intro Lk ak ww H _ _ hN
    obtain ⟨x0,x1,x2,x3,x4,x5⟩:=H.x
    simp [go_sem,(gS ak 30 (H.d 2 rfl rfl))]
    have hBi:=H.k.below0 hB
    refine (toRegion_c p p_a ww (by have:=dec_f q7;have:=dec_f q18;(try unfold regionLen at *);omega) ⟨(hs_p.halves.below hBi)⟩).mono ?_
    rintro x wx ⟨m2,rfl,f0,hb⟩
    have f2:=f0.mono H.k.size
    exact (hN _ _ (H.k.call hb) trivial ⟨(fun h=>by rw [put_ne' (by decide)];obtain ⟨m1',e,f1'⟩:=x0 h;exact ⟨m1',e,f1'.below hb leR⟩),(fun _=>by rw [put_get_self (H.f.lt (by rw [hz];decide))];exact ⟨m2,rfl,f2⟩),(fun h=>by rw [put_ne' (by decide)];obtain ⟨la3',e,f3'⟩:=x2 h;exact ⟨la3',e,f3'.below hb leR⟩),(fun h=>by rw [put_ne' (by decide)];obtain ⟨la3',e,f3'⟩:=x3 h;exact ⟨la3',e,f3'.below hb leR⟩),(fun h=>by rw [put_ne' (by decide)];obtain ⟨la3',e,f3'⟩:=x4 h;exact ⟨la3',e,f3'.below hb leR⟩),(fun h=>((x5 h).bel hb (fun _ ⟨la3',e,f3'⟩=>⟨la3',e,f3'.below hb leR⟩)).put (by decide) _)⟩)
   ·intro Lk ak ww H _ _ hN
    obtain ⟨x0,x1,x2,x3,x4,x5⟩:=H.x
    obtain ⟨m1,ee1,f1⟩:=x0 (H.r 1 rfl)
    obtain ⟨m2,ee3,f2⟩:=x1 (H.r 3 rfl)
    simp [go_sem,ee1,ee3]
    refine (sLawOf_c r p m1 m2 ww (by have:=dec_f q7;have:=dec_f q18;(try unfold regionLen at *);omega) hin_r f1.sl f1.nil (by have:=dec_f q7;have:=dec_f q18;(try unfold regionLen at *);omega) hin_p.halves (f2.halves.out halfC_len) f2.halves.nilcap).mono ?_
    rintro x wx ⟨la3,rfl,f0,hb⟩
    have f3:=f0.mono H.k.size
    exact (hN _ _ (H.k.call hb) trivial ⟨(fun h=>by rw [put_ne' (by decide)];obtain ⟨m1',e,f1'⟩:=x0 h;exact ⟨m1',e,f1'.below hb leR⟩),(fun h=>by rw [put_ne' (by decide)];obtain ⟨m2',e,f2'⟩:=x1 h;exact ⟨m2',e,f2'.below hb leR⟩),(fun _=>by rw [put_get_self (H.f.lt (by rw [hz];decide))];exact ⟨la3,rfl,f3⟩),(fun h=>by rw [put_ne' (by decide)];obtain ⟨la3',e,f3'⟩:=x3 h;exact ⟨la3',e,f3'.below hb leR⟩),(fun h=>by rw [put_ne' (by decide)];obtain ⟨la3',e,f3'⟩:=x4 h;exact ⟨la3',e,f3'.below hb leR⟩),(fun h=>((x5 h).bel hb (fun _ ⟨la3',e,f3'⟩=>⟨la3',e,f3'.below hb leR⟩)).put (by decide) _)⟩)
   ·intro Lk ak ww H _ _ hN
    obtain ⟨x0,x1,x2,x3,x4,x5⟩:=H.x
    obtain ⟨la3,ee4,f3⟩:=x2 (H.r 4 rfl)
    exact wp_move rfl (ev ee4) (hN _ _ H.k trivial ⟨(fun h=>by rw [put_ne' (by decide)];obtain ⟨m1',e,f1'⟩:=x0 h;exact ⟨m1',e,f1'.below bR leR⟩),(fun h=>by rw [put_ne' (by decide)];obtain ⟨m2',e,f2'⟩:=x1 h;exact ⟨m2',e,f2'.below bR leR⟩),(fun h=>by rw [put_ne' (by decide)];obtain ⟨la3',e,f3'⟩:=x2 h;exact ⟨la3',e,f3'.below bR leR⟩),(fun _=>by rw [put_get_self (H.f.lt (by rw [hz];decide))];exact ⟨la3,rfl,f3⟩),(fun h=>by rw [put_ne' (by decide)];obtain ⟨la3',e,f3'⟩:=x4 h;exact ⟨la3',e,f3'.below bR leR⟩),(fun h=>((x5 h).bel bR (fun _ ⟨la3',e,f3'⟩=>⟨la3',e,f3'.below bR leR⟩)).put (by decide) _)⟩)
   ·intro Lk ak ww H _ _ hN
    obtain ⟨x0,x1,x2,x3,x4,x5⟩:=H.x
    obtain ⟨la3,ee5,f3⟩:=x3 (H.r 5 rfl)
    exact wp_extract rfl (ev ee5) rfl (hN _ _ H.k trivial ⟨(fun h=>by rw [put_ne' (by decide)];obtain ⟨m1',e,f1'⟩:=x0 h;exact ⟨m1',e,f1'.below bR leR⟩),(fun h=>by rw [put_ne' (by decide)];obtain ⟨m2',e,f2'⟩:=x1 h;exact ⟨m2',e,f2'.below bR leR⟩),(fun h=>by rw [put_ne' (by decide)];obtain ⟨la3',e,f3'⟩:=x2 h;exact ⟨la3',e,f3'.below bR leR⟩),(fun h=>by rw [put_ne' (by decide)];obtain ⟨la3',e,f3'⟩:=x3 h;exact ⟨la3',e,f3'.below bR leR⟩),(fun _=>by rw [put_get_self (H.f.lt (by rw [hz];decide))];exact ⟨la3,rfl,f3⟩),(fun h=>((x5 h).bel bR (fun _ ⟨la3',e,f3'⟩=>⟨la3',e,f3'.below bR leR⟩)).put (by decide) _)⟩)
   ·intro Lk ak ww H _ _ hN
    obtain ⟨x0,x1,x2,x3,x4,x5⟩:=H.x
    obtain ⟨la3,ee5,f3⟩:=x3 (H.r 5 rfl)
    exact wp_extract rfl (ev ee5) rfl (hN _ _ H.k rfl (hXb.q rfl H.x))
   ·intro Lk ak ww H _ _ hN
    obtain ⟨x0,x1,x2,x3,x4,x5⟩:=H.x
    simp [go_sem]
    exact hN _ _ (H.k.alloc _) trivial ⟨(fun h=>by rw [put_ne' (by decide)];obtain ⟨m1',e,f1'⟩:=x0 h;exact ⟨m1',e,f1'.below (below_al bR _) leR⟩),(fun h=>by rw [put_ne' (by decide)];obtain ⟨m2',e,f2'⟩:=x1 h;exact ⟨m2',e,f2'.below (below_al bR _) leR⟩),(fun h=>by rw [put_ne' (by decide)];obtain ⟨la3',e,f3'⟩:=x2 h;exact ⟨la3',e,f3'.below (below_al bR _) leR⟩),(fun h=>by rw [put_ne' (by decide)];obtain ⟨la3',e,f3'⟩:=x3 h;exact ⟨la3',e,f3'.below (below_al bR _) leR⟩),(fun h=>by rw [put_ne' (by decide)];obtain ⟨la3',e,f3'⟩:=x4 h;exact ⟨la3',e,f3'.below (below_al bR _) leR⟩),(fun _=>by rw [show upd Lk 8 9=false from H.t 9 rfl];exact BoxX.new (s:=6) (H.f.lt (by rw [hz];decide)) H.k.size [.slice none 0 0,.slice none 0 0])⟩
   ·intro Lk ak ww H _ _ hN
    obtain ⟨x0,x1,x2,x3,x4,x5⟩:=H.x
    obtain ⟨la3,ee6,f3⟩:=x4 (H.r 6 rfl)
    obtain ⟨g,eg,hg,y,_⟩:=x5 (H.r 8 rfl)
    have HT:=y H.n
    simp [go_sem,ee6,eg,HT.cell,HT.frz]
    have f3:=f3.otherT HT (by decide) [.slice la3.lows.A ((lofR r p).lows.length) la3.lows.c,.slice la3.highs.A ((lofR r p).highs.length) la3.highs.c] 0
    exact hN undef _ (H.k.store (.inl hg) [.slice la3.lows.A ((lofR r p).lows.length) la3.lows.c,.slice la3.highs.A ((lofR r p).highs.length) la3.highs.c] 0) trivial ⟨(fun h=>by obtain ⟨m1',e,f1'⟩:=x0 h;exact ⟨m1',e,f1'.otherT HT (by decide) (by decide) [.slice la3.lows.A ((lofR r p).lows.length) la3.lows.c,.slice la3.highs.A ((lofR r p).highs.length) la3.highs.c] 0⟩),(fun h=>by obtain ⟨m2',e,f2'⟩:=x1 h;exact ⟨m2',e,f2'.otherT HT (by decide) [.slice la3.lows.A ((lofR r p).lows.length) la3.lows.c,.slice la3.highs.A ((lofR r p).highs.length) la3.highs.c] 0⟩),(fun h=>by obtain ⟨la3',e,f3'⟩:=x2 h;exact ⟨la3',e,f3'.otherT HT (by decide) [.slice la3.lows.A ((lofR r p).lows.length) la3.lows.c,.slice la3.highs.A ((lofR r p).highs.length) la3.highs.c] 0⟩),(fun h=>by obtain ⟨la3',e,f3'⟩:=x3 h;exact ⟨la3',e,f3'.otherT HT (by decide) [.slice la3.lows.A ((lofR r p).lows.length) la3.lows.c,.slice la3.highs.A ((lofR r p).highs.length) la3.highs.c] 0⟩),(fun h=>by obtain ⟨la3',e,f3'⟩:=x4 h;exact ⟨la3',e,f3'.otherT HT (by decide) [.slice la3.lows.A ((lofR r p).lows.length) la3.lows.c,.slice la3.highs.A ((lofR r p).highs.length) la3.highs.c] 0⟩),(fun _=>BoxX.set eg hg HT (us:=[.slice la3.lows.A ((lofR r p).lows.length) la3.lows.c,.slice la3.highs.A ((lofR r p).highs.length) la3.highs.c]) rfl ⟨la3,rfl,f3⟩)⟩
   ·exact fun Lk ak ww H _ _ hN=>wp_assign rfl (ev (H.d 7 rfl rfl)) (hN _ _ H.k rfl (hXb.q rfl H.x))
   intro L a29 w30 hL hF hK hV hX
   obtain ⟨x0,x1,x2,x3,x4,x5⟩:=hX
   replace hz:=hF.Z hz;replace hdf:=hF.E hdf;replace s2:=hF.G s2;replace s3:=hF.G s3;have s7:=gS a29 7 (hV 10 _ rfl);replace b3:=b3.k0 hK;replace b4:=b4.k0 hK
   obtain ⟨g31,s6,lg31,-,b31⟩:=x5 (hL 8 (by decide))
   obtain ⟨_,b31,la3,rfl,N3⟩:=b31 (hL 9 (by decide))
   have ug31:=b31.lt
   have BL3:BlkL w28.heap.size w30.heap.size [la3.lows,la3.highs]:=N3.blkL;have zw28:=hZ;have zw30:=hK.size;replace hZ:=Nat.le_refl w30.heap.size;replace hB:=hK.below0 hB;clear hF hK hV hL x0 x1 x2 x3 x4 x5 hXb s26;refine th_n ?_;refine wp_seq ?_
   refine wp_regJ (by kernel_rfl) [35,36,8,0] [some (roomV r r_a),none,none,none] (dlR 4) [35,36,8] [0,1,2,3] [] (fun L aa ww=>(L 1=true→(fun ww v=>∃ m4,v=roomV r m4∧RoomNew ww w30.heap.size r m4) ww (aa.tmps[36]?.getD undef))∧(L 2=true→BoxX w30 aa ww 8 39 [.slice none 0 0,.int .i64 0,.int .i64 0,.int .i64 0,.int .i64 0,.int .i64 0,.slice none 0 0,.slice none 0 0] (L 3) (fun ww vs=>∃ m4,vs=(roomC r m4)∧RoomNew ww w30.heap.size r m4))) (by kernel_rfl) (by rw [hz];decide) ?_ (en rfl ?_ (en rfl ?_ (en rfl ?_ (en rfl ?_ .nil)))) ?_
   ·exact fun _ h=>⟨(fun h=>by cases h),(fun h=>by cases h)⟩
   ·intro Lk ak ww H _ _ hN
    simp [go_sem,H.f.g rfl s2,(b3.k0 H.k).cell]
    exact (hN _ _ H.k rfl ⟨(fun h=>by rw [put_ne' (by decide)];obtain ⟨m4',e,f4'⟩:=H.x.1 h;exact ⟨m4',e,f4'.below bR leR⟩),(fun h=>((H.x.2 h).bel bR (fun _ ⟨m4',e,f4'⟩=>⟨m4',e,f4'.below bR leR⟩)).put (by decide) _)⟩)
   ·intro Lk ak ww H _ _ hN
    obtain ⟨x0,x1⟩:=H.x
    simp [go_sem,(gS ak 35 (H.d 0 rfl rfl))]
    have hBi:=H.k.below0 hB
    refine (toRoom_c r r_a ww (by have:=dec_f q7;have:=dec_f q18;(try unfold regionLen at *);omega) (hs_r.below hBi)).mono ?_
    rintro x wx ⟨m4,rfl,f0,hb⟩
    have f4:=f0.mono H.k.size
    exact (hN _ _ (H.k.call hb) trivial ⟨(fun _=>by rw [put_get_self (H.f.lt (by rw [hz];decide))];exact ⟨m4,rfl,f4⟩),(fun h=>((x1 h).bel hb (fun _ ⟨m4',e,f4'⟩=>⟨m4',e,f4'.below hb leR⟩)).put (by decide) _)⟩)
   ·intro Lk ak ww H _ _ hN
    obtain ⟨x0,x1⟩:=H.x
    simp [go_sem]
    exact hN _ _ (H.k.alloc _) trivial ⟨(fun h=>by rw [put_ne' (by decide)];obtain ⟨m4',e,f4'⟩:=x0 h;exact ⟨m4',e,f4'.below (below_al bR _) leR⟩),(fun _=>by rw [show upd Lk 2 3=false from H.t 3 rfl];exact BoxX.new (s:=8) (H.f.lt (by rw [hz];decide)) H.k.size [.slice none 0 0,.int .i64 0,.int .i64 0,.int .i64 0,.int .i64 0,.int .i64 0,.slice none 0 0,.slice none 0 0])⟩
   ·intro Lk ak ww H _ _ hN
    obtain ⟨x0,x1⟩:=H.x
    obtain ⟨m4,ee1,f4⟩:=x0 (H.r 1 rfl)
    obtain ⟨g,eg,hg,y,_⟩:=x1 (H.r 2 rfl)
    have HT:=y H.n
    simp [go_sem,ee1,eg,HT.cell,HT.frz]
    have f4:=f4.otherT HT (by decide) (by decide) [.slice m4.map.A r.map.length m4.map.c,.int .i64 r.div,.int .i64 r.bx,.int .i64 r.by_,.int .i64 r.low,.int .i64 r.high,.slice m4.noise.A r.noise.length m4.noise.c,.slice m4.limits.A r.limits.length m4.limits.c] 0
    exact hN undef _ (H.k.store (.inl hg) [.slice m4.map.A r.map.length m4.map.c,.int .i64 r.div,.int .i64 r.bx,.int .i64 r.by_,.int .i64 r.low,.int .i64 r.high,.slice m4.noise.A r.noise.length m4.noise.c,.slice m4.limits.A r.limits.length m4.limits.c] 0) trivial ⟨(fun h=>by obtain ⟨m4',e,f4'⟩:=x0 h;exact ⟨m4',e,f4'.otherT HT (by decide) (by decide) [.slice m4.map.A r.map.length m4.map.c,.int .i64 r.div,.int .i64 r.bx,.int .i64 r.by_,.int .i64 r.low,.int .i64 r.high,.slice m4.noise.A r.noise.length m4.noise.c,.slice m4.limits.A r.limits.length m4.limits.c] 0⟩),(fun _=>BoxX.set eg hg HT (us:=[.slice m4.map.A r.map.length m4.map.c,.int .i64 r.div,.int .i64 r.bx,.int .i64 r.by_,.int .i64 r.low,.int .i64 r.high,.slice m4.noise.A r.noise.length m4.noise.c,.slice m4.limits.A r.limits.length m4.limits.c]) rfl ⟨m4,rfl,f4⟩)⟩
   intro L a32 w33 hL hF hK hV hX
   obtain ⟨x0,x1⟩:=hX
   replace hz:=hF.Z hz;replace hdf:=hF.E hdf;replace s2:=hF.G s2;replace s3:=hF.G s3;replace s7:=hF.G s7;replace s6:=hF.G s6;replace b3:=b3.k0 hK;replace b4:=b4.k0 hK;replace b31:=b31.k0 hK
   obtain ⟨g34,s8,lg34,-,b34⟩:=x1 (hL 2 (by decide))
   obtain ⟨_,b34,m4,rfl,N4⟩:=b34 (hL 3 (by decide))
   have ug34:=b34.lt
   replace N3:=N3.below hK.toBelow leR;have BL4:BlkL w30.heap.size w33.heap.size [m4.map,m4.noise,m4.limits]:=N4.blkL;have zw33:=hK.size;replace hZ:=Nat.le_refl w33.heap.size;replace hB:=hK.below0 hB;clear hF hK hV hL x0 x1;refine th_n ?_;refine wp_seq ?_
   refine wp_regJ (by kernel_rfl) [37,38,9,0] [some (.agg #[.slice p_a.A p.length p_a.c]),none,none,none] (dlR 4) [37,38,9] [0,1,2,3] [] (fun L aa ww=>(L 1=true→(fun ww v=>∃ m5,v=.agg #[.slice m5.A p.length m5.c]∧RegionNew ww w33.heap.size p m5) ww (aa.tmps[38]?.getD undef))∧(L 2=true→BoxX w33 aa ww 9 37 [.slice none 0 0] (L 3) (fun ww vs=>∃ m5,vs=[.slice m5.A p.length m5.c]∧RegionNew ww w33.heap.size p m5))) (by kernel_rfl) (by rw [hz];decide) ?_ (en rfl ?_ (en rfl ?_ (en rfl ?_ (en rfl ?_ .nil)))) ?_
   ·exact fun _ h=>⟨(fun h=>by cases h),(fun h=>by cases h)⟩
   ·intro Lk ak ww H _ _ hN
    simp [go_sem,H.f.g rfl s3,(b4.k0 H.k).cell]
    exact (hN _ _ H.k rfl ⟨(fun h=>by rw [put_ne' (by decide)];obtain ⟨m5',e,f5'⟩:=H.x.1 h;exact ⟨m5',e,f5'.below bR leR⟩),(fun h=>((H.x.2 h).bel bR (fun _ ⟨m5',e,f5'⟩=>⟨m5',e,f5'.below bR leR⟩)).put (by decide) _)⟩)
   ·intro Lk ak ww H _ _ hN
    obtain ⟨x0,x1⟩:=H.x
    simp [go_sem,(gS ak 37 (H.d 0 rfl rfl))]
    have hBi:=H.k.below0 hB
    refine (toRegion_c p p_a ww (by have:=dec_f q7;have:=dec_f q18;(try unfold regionLen at *);omega) ⟨(hs_p.halves.below hBi)⟩).mono ?_
    rintro x wx ⟨m5,rfl,f0,hb⟩
    have f5:=f0.mono H.k.size
    exact (hN _ _ (H.k.call hb) trivial ⟨(fun _=>by rw [put_get_self (H.f.lt (by rw [hz];decide))];exact ⟨m5,rfl,f5⟩),(fun h=>((x1 h).bel hb (fun _ ⟨m5',e,f5'⟩=>⟨m5',e,f5'.below hb leR⟩)).put (by decide) _)⟩)
   ·intro Lk ak ww H _ _ hN
    obtain ⟨x0,x1⟩:=H.x
    simp [go_sem]
    exact hN _ _ (H.k.alloc _) trivial ⟨(fun h=>by rw [put_ne' (by decide)];obtain ⟨m5',e,f5'⟩:=x0 h;exact ⟨m5',e,f5'.below (below_al bR _) leR⟩),(fun _=>by rw [show upd Lk 2 3=false from H.t 3 rfl];exact BoxX.new (s:=9) (H.f.lt (by rw [hz];decide)) H.k.size [.slice none 0 0])⟩
   ·intro Lk ak ww H _ _ hN
    obtain ⟨x0,x1⟩:=H.x
    obtain ⟨m5,ee1,f5⟩:=x0 (H.r 1 rfl)
    obtain ⟨g,eg,hg,y,_⟩:=x1 (H.r 2 rfl)
    have HT:=y H.n
    simp [go_sem,ee1,eg,HT.cell,HT.frz]
    have f5:=f5.otherT HT (by decide) [.slice m5.A p.length m5.c] 0
    exact hN undef _ (H.k.store (.inl hg) [.slice m5.A p.length m5.c] 0) trivial ⟨(fun h=>by obtain ⟨m5',e,f5'⟩:=x0 h;exact ⟨m5',e,f5'.otherT HT (by decide) [.slice m5.A p.length m5.c] 0⟩),(fun _=>BoxX.set eg hg HT (us:=[.slice m5.A p.length m5.c]) rfl ⟨m5,rfl,f5⟩)⟩
   intro L a35 w36 hL hF hK hV hX
   obtain ⟨x0,x1⟩:=hX
   replace hz:=hF.Z hz;replace hdf:=hF.E hdf;replace s2:=hF.G s2;replace s3:=hF.G s3;replace s7:=hF.G s7;replace s6:=hF.G s6;replace s8:=hF.G s8;replace b3:=b3.k0 hK;replace b4:=b4.k0 hK;replace b31:=b31.k0 hK;replace b34:=b34.k0 hK
   obtain ⟨g37,s9,lg37,-,b37⟩:=x1 (hL 2 (by decide))
   obtain ⟨_,b37,m5,rfl,N5⟩:=b37 (hL 3 (by decide))
   have ug37:=b37.lt
   replace N3:=N3.below hK.toBelow leR;replace N4:=N4.below hK.toBelow leR;have BL5:BlkL w33.heap.size w36.heap.size [m5]:=N5.blkL;have zw36:=hK.size;replace hZ:=Nat.le_refl w36.heap.size;replace hB:=hK.below0 hB;clear hF hK hV hL x0 x1;refine th_n ?_;refine wp_seq ?_
   have hXb:StaysX [10,39,42,43] (fun L aa ww=>(L 2=true→(fun ww v=>∃ la6,v=.tuple #[.agg #[.slice la6.lows.A ((lofR r p).lows.length) la6.lows.c,.slice la6.highs.A ((lofR r p).highs.length) la6.highs.c],.bool (lofOk r p)]∧LawNew ww w36.heap.size (lofR r p) la6) ww (aa.tmps[42]?.getD undef))∧(L 3=true→(fun ww v=>∃ la6,v=.tuple #[.agg #[.slice la6.lows.A ((lofR r p).lows.length) la6.lows.c,.slice la6.highs.A ((lofR r p).highs.length) la6.highs.c],.bool (lofOk r p)]∧LawNew ww w36.heap.size (lofR r p) la6) ww (aa.tmps[39]?.getD undef))∧(L 4=true→(fun ww v=>∃ la6,v=.agg #[.slice la6.lows.A ((lofR r p).lows.length) la6.lows.c,.slice la6.highs.A ((lofR r p).highs.length) la6.highs.c]∧LawNew ww w36.heap.size (lofR r p) la6) ww (aa.tmps[43]?.getD undef))∧(L 6=true→BoxX w36 aa ww 10 32 [.slice none 0 0,.slice none 0 0] (L 7) (fun ww vs=>∃ la6,vs=[.slice la6.lows.A ((lofR r p).lows.length) la6.lows.c,.slice la6.highs.A ((lofR r p).highs.length) la6.highs.c]∧LawNew ww w36.heap.size (lofR r p) la6))):=by
    intro L aa ww w' kk vv hkk hb hX
    obtain ⟨x0,x1,x2,x3⟩:=hX
    exact ⟨(fun h=>by rw [put_ne' (hkk 42 (by simp))];obtain ⟨la6',e,f6'⟩:=x0 h;exact ⟨la6',e,f6'.below hb leR⟩),(fun h=>by rw [put_ne' (hkk 39 (by simp))];obtain ⟨la6',e,f6'⟩:=x1 h;exact ⟨la6',e,f6'.below hb leR⟩),(fun h=>by rw [put_ne' (hkk 43 (by simp))];obtain ⟨la6',e,f6'⟩:=x2 h;exact ⟨la6',e,f6'.below hb leR⟩),(fun h=>((x3 h).bel hb (fun _ ⟨la6',e,f6'⟩=>⟨la6',e,f6'.below hb leR⟩)).put (hkk 10 (by simp)) _)⟩
   refine wp_regK hXb (by kernel_rfl) [40,41,42,39,43,44,10,0,11] [some (roomV r m4),some (.agg #[.slice m5.A p.length m5.c]),none,none,none,some (.bool (lofOk r p)),none,none,some (.bool (lofOk r p))] (dlR 9) [40,41,42,39,43,44,10,11] [0,1,2,3,4,5,6,7,8] [] (by kernel_rfl) (by rw [hz];decide) ?_ (en rfl ?_ (en rfl ?_ (en rfl ?_ (en rfl ?_ (en rfl ?_ (en rfl ?_ (en rfl ?_ (en rfl ?_ (en rfl ?_ .nil))))))))) ?_
   ·exact fun _ h=>⟨(fun h=>by cases h),(fun h=>by cases h),(fun h=>by cases h),(fun h=>by cases h)⟩
   ·intro Lk ak ww H _ _ hN
    simp [go_sem,H.f.g rfl s8,(b34.k0 H.k).cell]
    exact (hN _ _ H.k rfl (hXb.q rfl H.x))
   ·intro Lk ak ww H _ _ hN
    simp [go_sem,H.f.g rfl s9,(b37.k0 H.k).cell]
    exact (hN _ _ H.k rfl (hXb.q rfl H.x))
   ·intro Lk ak ww H _ _ hN
    obtain ⟨x0,x1,x2,x3⟩:=H.x
    simp [go_sem,(gS ak 40 (H.d 0 rfl rfl)),(gS ak 41 (H.d 1 rfl rfl))]
    refine (iLawOf_c r p m4 m5 ww (by have:=dec_f q7;have:=dec_f q18;(try unfold regionLen at *);omega) hin_r ((N4.below H.k.toBelow leR).sl) N4.nil (by have:=dec_f q7;have:=dec_f q18;(try unfold regionLen at *);omega) hin_p.halves ((N5.below H.k.toBelow leR).halves.out halfC_len) N5.halves.nilcap).mono ?_
    rintro x wx ⟨la6,rfl,f0,hb⟩
    have f6:=f0.mono H.k.size
    exact (hN _ _ (H.k.call hb) trivial ⟨(fun _=>by rw [put_get_self (H.f.lt (by rw [hz];decide))];exact ⟨la6,rfl,f6⟩),(fun h=>by rw [put_ne' (by decide)];obtain ⟨la6',e,f6'⟩:=x1 h;exact ⟨la6',e,f6'.below hb leR⟩),(fun h=>by rw [put_ne' (by decide)];obtain ⟨la6',e,f6'⟩:=x2 h;exact ⟨la6',e,f6'.below hb leR⟩),(fun h=>((x3 h).bel hb (fun _ ⟨la6',e,f6'⟩=>⟨la6',e,f6'.below hb leR⟩)).put (by decide) _)⟩)
   ·intro Lk ak ww H _ _ hN
    obtain ⟨x0,x1,x2,x3⟩:=H.x
    obtain ⟨la6,ee2,f6⟩:=x0 (H.r 2 rfl)
    exact wp_move rfl (ev ee2) (hN _ _ H.k trivial ⟨(fun h=>by rw [put_ne' (by decide)];obtain ⟨la6',e,f6'⟩:=x0 h;exact ⟨la6',e,f6'.below bR leR⟩),(fun _=>by rw [put_get_self (H.f.lt (by rw [hz];decide))];exact ⟨la6,rfl,f6⟩),(fun h=>by rw [put_ne' (by decide)];obtain ⟨la6',e,f6'⟩:=x2 h;exact ⟨la6',e,f6'.below bR leR⟩),(fun h=>((x3 h).bel bR (fun _ ⟨la6',e,f6'⟩=>⟨la6',e,f6'.below bR leR⟩)).put (by decide) _)⟩)
   ·intro Lk ak ww H _ _ hN
    obtain ⟨x0,x1,x2,x3⟩:=H.x
    obtain ⟨la6,ee3,f6⟩:=x1 (H.r 3 rfl)
    exact wp_extract rfl (ev ee3) rfl (hN _ _ H.k trivial ⟨(fun h=>by rw [put_ne' (by decide)];obtain ⟨la6',e,f6'⟩:=x0 h;exact ⟨la6',e,f6'.below bR leR⟩),(fun h=>by rw [put_ne' (by decide)];obtain ⟨la6',e,f6'⟩:=x1 h;exact ⟨la6',e,f6'.below bR leR⟩),(fun _=>by rw [put_get_self (H.f.lt (by rw [hz];decide))];exact ⟨la6,rfl,f6⟩),(fun h=>((x3 h).bel bR (fun _ ⟨la6',e,f6'⟩=>⟨la6',e,f6'.below bR leR⟩)).put (by decide) _)⟩)
   ·intro Lk ak ww H _ _ hN
    obtain ⟨x0,x1,x2,x3⟩:=H.x
    obtain ⟨la6,ee3,f6⟩:=x1 (H.r 3 rfl)
    exact wp_extract rfl (ev ee3) rfl (hN _ _ H.k rfl (hXb.q rfl H.x))
   ·intro Lk ak ww H _ _ hN
    obtain ⟨x0,x1,x2,x3⟩:=H.x
    simp [go_sem]
    exact hN _ _ (H.k.alloc _) trivial ⟨(fun h=>by rw [put_ne' (by decide)];obtain ⟨la6',e,f6'⟩:=x0 h;exact ⟨la6',e,f6'.below (below_al bR _) leR⟩),(fun h=>by rw [put_ne' (by decide)];obtain ⟨la6',e,f6'⟩:=x1 h;exact ⟨la6',e,f6'.below (below_al bR _) leR⟩),(fun h=>by rw [put_ne' (by decide)];obtain ⟨la6',e,f6'⟩:=x2 h;exact ⟨la6',e,f6'.below (below_al bR _) leR⟩),(fun _=>by rw [show upd Lk 6 7=false from H.t 7 rfl];exact BoxX.new (s:=10) (H.f.lt (by rw [hz];decide)) H.k.size [.slice none 0 0,.slice none 0 0])⟩
   ·intro Lk ak ww H _ _ hN
    obtain ⟨x0,x1,x2,x3⟩:=H.x
    obtain ⟨la6,ee4,f6⟩:=x2 (H.r 4 rfl)
    obtain ⟨g,eg,hg,y,_⟩:=x3 (H.r 6 rfl)
    have HT:=y H.n
    simp [go_sem,ee4,eg,HT.cell,HT.frz]
    have f6:=f6.otherT HT (by decide) [.slice la6.lows.A ((lofR r p).lows.length) la6.lows.c,.slice la6.highs.A ((lofR r p).highs.length) la6.highs.c] 0
    exact hN undef _ (H.k.store (.inl hg) [.slice la6.lows.A ((lofR r p).lows.length) la6.lows.c,.slice la6.highs.A ((lofR r p).highs.length) la6.highs.c] 0) trivial ⟨(fun h=>by obtain ⟨la6',e,f6'⟩:=x0 h;exact ⟨la6',e,f6'.otherT HT (by decide) [.slice la6.lows.A ((lofR r p).lows.length) la6.lows.c,.slice la6.highs.A ((lofR r p).highs.length) la6.highs.c] 0⟩),(fun h=>by obtain ⟨la6',e,f6'⟩:=x1 h;exact ⟨la6',e,f6'.otherT HT (by decide) [.slice la6.lows.A ((lofR r p).lows.length) la6.lows.c,.slice la6.highs.A ((lofR r p).highs.length) la6.highs.c] 0⟩),(fun h=>by obtain ⟨la6',e,f6'⟩:=x2 h;exact ⟨la6',e,f6'.otherT HT (by decide) [.slice la6.lows.A ((lofR r p).lows.length) la6.lows.c,.slice la6.highs.A ((lofR r p).highs.length) la6.highs.c] 0⟩),(fun _=>BoxX.set eg hg HT (us:=[.slice la6.lows.A ((lofR r p).lows.length) la6.lows.c,.slice la6.highs.A ((lofR r p).highs.length) la6.highs.c]) rfl ⟨la6,rfl,f6⟩)⟩
   ·exact fun Lk ak ww H _ _ hN=>wp_assign rfl (ev (H.d 5 rfl rfl)) (hN _ _ H.k rfl (hXb.q rfl H.x))
   intro L a38 w39 hL hF hK hV hX
   obtain ⟨x0,x1,x2,x3⟩:=hX
   replace hz:=hF.Z hz;replace hdf:=hF.E hdf;replace s2:=hF.G s2;replace s3:=hF.G s3;replace s7:=hF.G s7;replace s6:=hF.G s6;replace s8:=hF.G s8;replace s9:=hF.G s9;have s11:=gS a38 11 (hV 8 _ rfl);replace b3:=b3.k0 hK;replace b4:=b4.k0 hK;replace b31:=b31.k0 hK;replace b34:=b34.k0 hK;replace b37:=b37.k0 hK
   obtain ⟨g40,s10,lg40,-,b40⟩:=x3 (hL 6 (by decide))
   obtain ⟨_,b40,la6,rfl,N6⟩:=b40 (hL 7 (by decide))
   have ug40:=b40.lt
   replace N3:=N3.below hK.toBelow leR;replace N4:=N4.below hK.toBelow leR;replace N5:=N5.below hK.toBelow leR;have BL6:BlkL w36.heap.size w39.heap.size [la6.lows,la6.highs]:=N6.blkL;have zw39:=hK.size;replace hZ:=Nat.le_refl w39.heap.size;replace hB:=hK.below0 hB;clear hF hK hV hL x0 x1 x2 x3 hXb;refine th_n ?_;refine wp_seq ?_;refine wp_seq ?_
   refine wp_regJ (by kernel_rfl) [45,46,47,48,49,50,51,52,53] [some (.agg #[.slice la6.lows.A ((lofR r p).lows.length) la6.lows.c,.slice la6.highs.A ((lofR r p).highs.length) la6.highs.c]),some (.agg #[.slice la3.lows.A ((lofR r p).lows.length) la3.lows.c,.slice la3.highs.A ((lofR r p).highs.length) la3.highs.c]),some (.bool true),some (.bool false),some (.bool false),some (.bool (lofOk r p)),some (.bool (lofOk r p)),some (.bool false),some (.bool false)] (dlR 9) [45,46,47,48,49,50,51,52,53] [0,1,2,3,4,5,6,7,8] [] (fun _ _ _=>True) (by kernel_rfl) (by rw [hz];decide) ?_ (en rfl ?_ (en rfl ?_ (en rfl ?_ (en rfl ?_ (en rfl ?_ (eg ?_ (eg ?_ (eg ?_ (en rfl ?_ .nil))))))))) ?_
   ·exact fun _ _=>trivial
   ·intro Lk ak ww H _ _ hN
    simp [go_sem,H.f.g rfl s10,(b40.k0 H.k).cell]
    exact (hN _ _ H.k rfl trivial)
   ·intro Lk ak ww H _ _ hN
    simp [go_sem,H.f.g rfl s6,(b31.k0 H.k).cell]
    exact (hN _ _ H.k rfl trivial)
   ·intro Lk ak ww H _ _ hN
    simp [go_sem,(gS ak 45 (H.d 0 rfl rfl)),(gS ak 46 (H.d 1 rfl rfl))]
    refine (eqLaw_t (lofR r p) la6 la3 ww hlr ((N6.below H.k.toBelow leR).sl) ((N3.below H.k.toBelow leR).sl)).mono ?_
    rintro x wx ⟨rfl,hb⟩
    exact (hN _ _ (H.k.call hb) rfl trivial)
   ·exact fun Lk ak ww H _ _ hN=>wp_not rfl (ev (H.d 2 rfl rfl)) (hN _ _ H.k rfl trivial)
   ·exact fun Lk ak ww H _ _ hN=>wp_move rfl (ev (H.d 3 rfl rfl)) (hN _ _ H.k rfl trivial)
   ·intro Lk ak ww H _ _ hN
    refine wnt_y rfl rfl rfl (H.d 4 rfl rfl) ?_
    exact wp_move rfl (ev (H.f.g rfl s11)) (hN _ _ H.k rfl trivial)
   ·intro Lk ak ww H _ _ hN
    refine wnt_y rfl rfl rfl (H.d 4 rfl rfl) ?_
    exact wp_move rfl (ev (H.f.g rfl s7)) (hN _ _ H.k rfl trivial)
   ·intro Lk ak ww H _ _ hN
    refine wnt_y rfl rfl rfl (H.d 4 rfl rfl) ?_
    simp [go_sem,(gS ak 50 (H.d 5 rfl rfl)),(gS ak 51 (H.d 6 rfl rfl))]
    exact (hN _ _ H.k rfl trivial)
   ·exact fun Lk ak ww H _ _ hN=>wp_pick rfl (ev (H.d 4 rfl rfl)) (fun h=>by cases h) (fun _=>(ev (H.d 7 rfl rfl))) (hN _ _ H.k rfl trivial)
   intro L a41 w42 hL hF hK hV hX;replace hz:=hF.Z hz;replace hdf:=hF.E hdf;replace s2:=hF.G s2;replace s3:=hF.G s3;replace s7:=hF.G s7;replace s6:=hF.G s6;replace s8:=hF.G s8;replace s9:=hF.G s9;replace s11:=hF.G s11;replace s10:=hF.G s10;have s53:=gS a41 53 (hV 8 _ rfl);replace b3:=b3.k0 hK;replace b4:=b4.k0 hK;replace b31:=b31.k0 hK;replace b34:=b34.k0 hK;replace b37:=b37.k0 hK;replace b40:=b40.k0 hK;replace N3:=N3.below hK.toBelow leR;replace N4:=N4.below hK.toBelow leR;replace N5:=N5.below hK.toBelow leR;replace N6:=N6.below hK.toBelow leR;replace hZ:=Nat.le_trans hZ hK.size;replace hB:=hK.below0 hB;clear hF hK hV hL hX;refine th_n ?_
   refine wp_cond_false (ev s53) ?_
   refine wp_skip ?_;refine th_n ?_;refine wp_seq ?_;refine wp_seq ?_
   have hXb:StaysX [56] (fun L aa ww=>(L 2=true→(fun ww v=>∃ m7,v=roomV r m7∧RoomNew ww w42.heap.size r m7) ww (aa.tmps[56]?.getD undef))):=by
    intro L aa ww w' kk vv hkk hb hX
    have x0:=hX
    exact (fun h=>by rw [put_ne' (hkk 56 (by simp))];obtain ⟨m7',e,f7'⟩:=x0 h;exact ⟨m7',e,f7'.below hb leR⟩)
   refine wp_regK hXb (by kernel_rfl) [54,55,56,57,58] [some (roomV r m4),some (roomV r r_a),none,some (.bool true),some (.bool false)] ([[],[],[1],[0,1,2],[0,1,2,3]]) [54,55,56,57,58] [0,1,2,3,4] [] (by kernel_rfl) (by rw [hz];decide) ?_ (en rfl ?_ (en rfl ?_ (en rfl ?_ (en rfl ?_ (en rfl ?_ .nil))))) ?_
   ·exact fun _ h=>(fun h=>by cases h)
   ·intro Lk ak ww H _ _ hN
    simp [go_sem,H.f.g rfl s8,(b34.k0 H.k).cell]
    exact (hN _ _ H.k rfl (hXb.q rfl H.x))
   ·intro Lk ak ww H _ _ hN
    simp [go_sem,H.f.g rfl s2,(b3.k0 H.k).cell]
    exact (hN _ _ H.k rfl (hXb.q rfl H.x))
   ·intro Lk ak ww H _ _ hN
    have x0:=H.x
    simp [go_sem,(gS ak 55 (H.d 1 rfl rfl))]
    have hBi:=H.k.below0 hB
    refine (toRoom_c r r_a ww (by have:=dec_f q7;have:=dec_f q18;(try unfold regionLen at *);omega) (hs_r.below hBi)).mono ?_
    rintro x wx ⟨m7,rfl,f0,hb⟩
    have f7:=f0.mono H.k.size
    exact (hN _ _ (H.k.call hb) trivial (fun _=>by rw [put_get_self (H.f.lt (by rw [hz];decide))];exact ⟨m7,rfl,f7⟩))
   ·intro Lk ak ww H _ _ hN
    have x0:=H.x
    obtain ⟨m7,ee2,f7⟩:=x0 (H.r 2 rfl)
    simp [go_sem,(gS ak 54 (H.d 0 rfl rfl)),ee2]
    refine (eqRoom_t r m4 m7 ww (by have:=dec_f q7;have:=dec_f q18;(try unfold regionLen at *);omega) ((N4.below H.k.toBelow leR).sl) f7.sl).mono ?_
    rintro x wx ⟨rfl,hb⟩
    exact (hN _ _ (H.k.call hb) rfl (hXb.b rfl hb H.x))
   ·exact fun Lk ak ww H _ _ hN=>wp_not rfl (ev (H.d 3 rfl rfl)) (hN _ _ H.k rfl (hXb.q rfl H.x))
   intro L a43 w44 hL hF hK hV hX;have x0:=hX;replace hz:=hF.Z hz;replace hdf:=hF.E hdf;replace s2:=hF.G s2;replace s3:=hF.G s3;replace s7:=hF.G s7;replace s6:=hF.G s6;replace s8:=hF.G s8;replace s9:=hF.G s9;replace s11:=hF.G s11;replace s10:=hF.G s10;have s58:=gS a43 58 (hV 4 _ rfl);replace b3:=b3.k0 hK;replace b4:=b4.k0 hK;replace b31:=b31.k0 hK;replace b34:=b34.k0 hK;replace b37:=b37.k0 hK;replace b40:=b40.k0 hK;replace N3:=N3.below hK.toBelow leR;replace N4:=N4.below hK.toBelow leR;replace N5:=N5.below hK.toBelow leR;replace N6:=N6.below hK.toBelow leR;replace hZ:=Nat.le_trans hZ hK.size;replace hB:=hK.below0 hB;clear hF hK hV hL x0 hXb s53;refine th_n ?_
   refine wp_cond_false (ev s58) ?_
   refine wp_skip ?_;refine th_n ?_;refine wp_seq ?_;refine wp_seq ?_
   have hXb:StaysX [61] (fun L aa ww=>(L 2=true→(fun ww v=>∃ m8,v=.agg #[.slice m8.A p.length m8.c]∧RegionNew ww w44.heap.size p m8) ww (aa.tmps[61]?.getD undef))):=by
    intro L aa ww w' kk vv hkk hb hX
    have x0:=hX
    exact (fun h=>by rw [put_ne' (hkk 61 (by simp))];obtain ⟨m8',e,f8'⟩:=x0 h;exact ⟨m8',e,f8'.below hb leR⟩)
   refine wp_regK hXb (by kernel_rfl) [59,60,61,62,63] [some (.agg #[.slice m5.A p.length m5.c]),some (.agg #[.slice p_a.A p.length p_a.c]),none,some (.bool true),some (.bool false)] ([[],[],[1],[0,1,2],[0,1,2,3]]) [59,60,61,62,63] [0,1,2,3,4] [] (by kernel_rfl) (by rw [hz];decide) ?_ (en rfl ?_ (en rfl ?_ (en rfl ?_ (en rfl ?_ (en rfl ?_ .nil))))) ?_
   ·exact fun _ h=>(fun h=>by cases h)
   ·intro Lk ak ww H _ _ hN
    simp [go_sem,H.f.g rfl s9,(b37.k0 H.k).cell]
    exact (hN _ _ H.k rfl (hXb.q rfl H.x))
   ·intro Lk ak ww H _ _ hN
    simp [go_sem,H.f.g rfl s3,(b4.k0 H.k).cell]
    exact (hN _ _ H.k rfl (hXb.q rfl H.x))
   ·intro Lk ak ww H _ _ hN
    have x0:=H.x
    simp [go_sem,(gS ak 60 (H.d 1 rfl rfl))]
    have hBi:=H.k.below0 hB
    refine (toRegion_c p p_a ww (by have:=dec_f q7;have:=dec_f q18;(try unfold regionLen at *);omega) ⟨(hs_p.halves.below hBi)⟩).mono ?_
    rintro x wx ⟨m8,rfl,f0,hb⟩
    have f8:=f0.mono H.k.size
    exact (hN _ _ (H.k.call hb) trivial (fun _=>by rw [put_get_self (H.f.lt (by rw [hz];decide))];exact ⟨m8,rfl,f8⟩))
   ·intro Lk ak ww H _ _ hN
    have x0:=H.x
    obtain ⟨m8,ee2,f8⟩:=x0 (H.r 2 rfl)
    simp [go_sem,(gS ak 59 (H.d 0 rfl rfl)),ee2]
    refine (eqRegion_t p m5 m8 ww (by have:=dec_f q7;have:=dec_f q18;(try unfold regionLen at *);omega) ⟨((N5.below H.k.toBelow leR).halves.out halfC_len)⟩ ⟨(f8.halves.out halfC_len)⟩).mono ?_
    rintro x wx ⟨rfl,hb⟩
    exact (hN _ _ (H.k.call hb) rfl (hXb.b rfl hb H.x))
   ·exact fun Lk ak ww H _ _ hN=>wp_not rfl (ev (H.d 3 rfl rfl)) (hN _ _ H.k rfl (hXb.q rfl H.x))
   intro L a45 w46 hL hF hK hV hX;have x0:=hX;replace hz:=hF.Z hz;replace hdf:=hF.E hdf;replace s2:=hF.G s2;replace s3:=hF.G s3;replace s7:=hF.G s7;replace s6:=hF.G s6;replace s8:=hF.G s8;replace s9:=hF.G s9;replace s11:=hF.G s11;replace s10:=hF.G s10;have s63:=gS a45 63 (hV 4 _ rfl);replace b3:=b3.k0 hK;replace b4:=b4.k0 hK;replace b31:=b31.k0 hK;replace b34:=b34.k0 hK;replace b37:=b37.k0 hK;replace b40:=b40.k0 hK;replace N3:=N3.below hK.toBelow leR;replace N4:=N4.below hK.toBelow leR;replace N5:=N5.below hK.toBelow leR;replace N6:=N6.below hK.toBelow leR;replace hZ:=Nat.le_trans hZ hK.size;replace hB:=hK.below0 hB;clear hF hK hV hL x0 hXb s58;refine th_n ?_
   refine wp_cond_false (ev s63) ?_
   refine wp_skip ?_;refine th_n ?_;refine wp_seq ?_
   refine wp_regJ (by kernel_rfl) [12] [some (.int .i64 1)] (dlR 1) [12] [0] [] (fun _ _ _=>True) (by kernel_rfl) (by rw [hz];decide) ?_ (en rfl ?_ .nil) ?_
   ·exact fun _ _=>trivial
   ·exact fun Lk ak ww H _ _ hN=>wp_assign rfl rfl (hN _ _ H.k rfl trivial)
   intro L a47 w48 hL hF hK hV hX;replace hz:=hF.Z hz;replace hdf:=hF.E hdf;replace s2:=hF.G s2;replace s3:=hF.G s3;replace s7:=hF.G s7;replace s6:=hF.G s6;replace s8:=hF.G s8;replace s9:=hF.G s9;replace s11:=hF.G s11;replace s10:=hF.G s10;have s12:=gS a47 12 (hV 0 _ rfl);replace b3:=b3.k0 hK;replace b4:=b4.k0 hK;replace b31:=b31.k0 hK;replace b34:=b34.k0 hK;replace b37:=b37.k0 hK;replace b40:=b40.k0 hK;replace N3:=N3.below hK.toBelow leR;replace N4:=N4.below hK.toBelow leR;replace N5:=N5.below hK.toBelow leR;replace N6:=N6.below hK.toBelow leR;replace hZ:=Nat.le_trans hZ hK.size;replace hB:=hK.below0 hB;clear hF hK hV hL hX s63;refine th_n ?_;refine wp_seq ?_
   have hm_r:roomLen r≤1048576:=(by have:=dec_f q7;have:=dec_f q18;(try unfold regionLen at *);omega)
   have hu_r:=hm_r
   unfold roomLen at hu_r
   have hm_p:List.length p≤1048576:=(by have:=dec_f q7;have:=dec_f q18;(try unfold regionLen at *);omega)
   have hXb:StaysX [12] (fun L aa ww=>(L 2=false→RoomNew ww w30.heap.size r m4)∧(L 3=false→aa.tmps[12]?.getD undef=.int .i64 1)):=by
    intro L aa ww w' kk vv hkk hb hX
    obtain ⟨x0,x1⟩:=hX
    exact ⟨(fun h=>(x0 h).below hb leR),(fun h=>(put_ne' (hkk 12 (by simp)) vv).trans (x1 h))⟩
   refine wp_regK hXb (by kernel_rfl) [64,65,66,12] [some (roomV r m4),some (.int .i64 1),some (.int .i64 (1+(r.map.length:Int)+(r.noise.length:Int)*3+(r.limits.length:Int)*3)),some (.int .i64 (1+(r.map.length:Int)+(r.noise.length:Int)*3+(r.limits.length:Int)*3))] (dlR 4) [64,65,66,12] [0,1,2,3] (blkLs [m4.map,m4.noise,m4.limits]) (by kernel_rfl) (by rw [hz];decide) ?_ (en rfl ?_ (en rfl ?_ (en rfl ?_ (en rfl ?_ .nil)))) ?_
   ·exact fun _ h=>⟨(fun _=>N4.below h.toBelow leR),(fun _=>s12)⟩
   ·intro Lk ak ww H _ _ hN
    simp [go_sem,H.f.g rfl s8,(b34.kp H.k (blkLs_nin (N4.neT b34 (by decide) (by decide)))).cell]
    exact (hN _ _ H.k rfl (hXb.q rfl H.x))
   ·intro Lk ak ww H _ _ hN
    obtain ⟨x0,x1⟩:=H.x
    exact wp_move rfl (ev (x1 (H.t 3 rfl))) (hN _ _ H.k rfl (hXb.q rfl H.x))
   ·intro Lk ak ww H _ _ hN
    obtain ⟨x0,x1⟩:=H.x
    simp [go_sem,(gS ak 64 (H.d 0 rfl rfl)),(gS ak 65 (H.d 1 rfl rfl))]
    refine (markRoom_g r m4 1 w30.heap.size ww (by omega) (by omega) (by omega) (x0 H.n)).mono ?_
    rintro x wx ⟨rfl,MM,hO⟩
    exact hN _ _ (H.k.trans2 hO.kp (fun m h=>.inl h)) rfl ⟨(fun h=>by simp [upd] at h),(fun h=>(put_ne' (by decide) _).trans (x1 h))⟩
   ·intro Lk ak ww H _ _ hN
    obtain ⟨x0,x1⟩:=H.x
    exact wp_assign rfl (ev (H.d 2 rfl rfl)) (hN _ _ H.k rfl ⟨(fun h=>(x0 h).below bR leR),(fun h=>by simp [upd] at h)⟩)
   intro L a49 w50 hL hF hK hV hX
   obtain ⟨x0,x1⟩:=hX
   replace hz:=hF.Z hz;replace hdf:=hF.E hdf;replace s2:=hF.G s2;replace s3:=hF.G s3;replace s7:=hF.G s7;replace s6:=hF.G s6;replace s9:=hF.G s9;replace s11:=hF.G s11;replace s10:=hF.G s10;have s12:=gS a49 12 (hV 3 _ rfl)
   replace b3:=b3.kp hK (blkLs_nin (N4.neT b3 (by decide) (by decide)))
   replace b4:=b4.kp hK (blkLs_nin (N4.neT b4 (by decide) (by decide)))
   replace b31:=b31.kp hK (blkLs_nin (N4.neT b31 (by decide) (by decide)))
   replace b37:=b37.kp hK (blkLs_nin (N4.neT b37 (by decide) (by decide)))
   replace b40:=b40.kp hK (blkLs_nin (N4.neT b40 (by decide) (by decide)))
   replace N3:=N3.far1 hK.only (BL3.apart BL4 (by omega))
   clear N4
   replace N5:=N5.far1 hK.only (BL5.apart BL4 (by omega))
   replace N6:=N6.far1 hK.only (BL6.apart BL4 (by omega))
   replace hZ:=Nat.le_trans hZ hK.size
   replace hB:=hK.below hB hB.size (blkLs_lo (BL4.lo (by omega)))
   clear hF hK hV hL x0 x1 hXb s8 b34
   have hneg51:decide (1+(r.map.length:Int)+(r.noise.length:Int)*3+(r.limits.length:Int)*3<0)=false:=decide_eq_false (by omega)
   refine th_n ?_;refine wp_seq ?_
   have hXb:StaysX [12] (fun L aa ww=>(L 2=false→RegionNew ww w33.heap.size p m5)∧(L 3=false→aa.tmps[12]?.getD undef=.int .i64 (1+(r.map.length:Int)+(r.noise.length:Int)*3+(r.limits.length:Int)*3))):=by
    intro L aa ww w' kk vv hkk hb hX
    obtain ⟨x0,x1⟩:=hX
    exact ⟨(fun h=>(x0 h).below hb leR),(fun h=>(put_ne' (hkk 12 (by simp)) vv).trans (x1 h))⟩
   refine wp_regK hXb (by kernel_rfl) [67,68,69,12] [some (.agg #[.slice m5.A p.length m5.c]),some (.int .i64 (1+(r.map.length:Int)+(r.noise.length:Int)*3+(r.limits.length:Int)*3)),some (.int .i64 (1+(r.map.length:Int)+(r.noise.length:Int)*3+(r.limits.length:Int)*3+(p.length:Int)*3)),some (.int .i64 (1+(r.map.length:Int)+(r.noise.length:Int)*3+(r.limits.length:Int)*3+(p.length:Int)*3))] (dlR 4) [67,68,69,12] [0,1,2,3] (blkLs [m5]) (by kernel_rfl) (by rw [hz];decide) ?_ (en rfl ?_ (en rfl ?_ (en rfl ?_ (en rfl ?_ .nil)))) ?_
   ·exact fun _ h=>⟨(fun _=>N5.below h.toBelow leR),(fun _=>s12)⟩
   ·intro Lk ak ww H _ _ hN
    simp [go_sem,H.f.g rfl s9,(b37.kp H.k (blkLs_nin (N5.neT b37 (by decide)))).cell]
    exact (hN _ _ H.k rfl (hXb.q rfl H.x))
   ·intro Lk ak ww H _ _ hN
    obtain ⟨x0,x1⟩:=H.x
    exact wp_move rfl (ev (x1 (H.t 3 rfl))) (hN _ _ H.k rfl (hXb.q rfl H.x))
   ·intro Lk ak ww H _ _ hN
    obtain ⟨x0,x1⟩:=H.x
    simp [go_sem,(gS ak 67 (H.d 0 rfl rfl)),(gS ak 68 (H.d 1 rfl rfl))]
    refine (markRegion_g p m5 (1+(r.map.length:Int)+(r.noise.length:Int)*3+(r.limits.length:Int)*3) w33.heap.size ww (by omega) (by omega) (by omega) (x0 H.n)).mono ?_
    rintro x wx ⟨rfl,MM,hO⟩
    exact hN _ _ (H.k.trans2 hO.kp (fun m h=>.inl h)) rfl ⟨(fun h=>by simp [upd] at h),(fun h=>(put_ne' (by decide) _).trans (x1 h))⟩
   ·intro Lk ak ww H _ _ hN
    obtain ⟨x0,x1⟩:=H.x
    exact wp_assign rfl (ev (H.d 2 rfl rfl)) (hN _ _ H.k rfl ⟨(fun h=>(x0 h).below bR leR),(fun h=>by simp [upd] at h)⟩)
   intro L a52 w53 hL hF hK hV hX
   obtain ⟨x0,x1⟩:=hX
   replace hz:=hF.Z hz;replace hdf:=hF.E hdf;replace s2:=hF.G s2;replace s3:=hF.G s3;replace s7:=hF.G s7;replace s6:=hF.G s6;replace s11:=hF.G s11;replace s10:=hF.G s10;have s12:=gS a52 12 (hV 3 _ rfl)
   replace b3:=b3.kp hK (blkLs_nin (N5.neT b3 (by decide)))
   replace b4:=b4.kp hK (blkLs_nin (N5.neT b4 (by decide)))
   replace b31:=b31.kp hK (blkLs_nin (N5.neT b31 (by decide)))
   replace b40:=b40.kp hK (blkLs_nin (N5.neT b40 (by decide)))
   replace N3:=N3.far1 hK.only (BL3.apart BL5 (by omega))
   clear N5
   replace N6:=N6.far1 hK.only (BL6.apart BL5 (by omega))
   replace hZ:=Nat.le_trans hZ hK.size
   replace hB:=hK.below hB hB.size (blkLs_lo (BL5.lo (by omega)))
   clear hF hK hV hL x0 x1 hXb s9 b37
   have hneg54:decide (1+(r.map.length:Int)+(r.noise.length:Int)*3+(r.limits.length:Int)*3+(p.length:Int)*3<0)=false:=decide_eq_false (by omega)
   refine th_n ?_;refine wp_seq ?_;refine wp_seq ?_
   refine wp_regJ (by kernel_rfl) [70,71,72,73,74,75,76,77,78,79,80,81,82] [some (.int .i64 (1+(r.map.length:Int)+(r.noise.length:Int)*3+(r.limits.length:Int)*3+(p.length:Int)*3)),some (.bool false),some (.bool false),some (.agg #[.slice la6.lows.A ((lofR r p).lows.length) la6.lows.c,.slice la6.highs.A ((lofR r p).highs.length) la6.highs.c]),some (.agg #[.slice la3.lows.A ((lofR r p).lows.length) la3.lows.c,.slice la3.highs.A ((lofR r p).highs.length) la3.highs.c]),some (.bool true),some (.bool false),some (.bool false),some (.bool false),some (.bool (lofOk r p)),some (.bool (lofOk r p)),some (.bool false),some (.bool false)] (dlR 13) [70,71,72,73,74,75,76,77,78,79,80,81,82] [0,1,2,3,4,5,6,7,8,9,10,11,12] [] (fun _ _ _=>True) (by kernel_rfl) (by rw [hz];decide) ?_ (en rfl ?_ (en rfl ?_ (en rfl ?_ (eg ?_ (eg ?_ (eg ?_ (eg ?_ (en rfl ?_ (en rfl ?_ (eg ?_ (eg ?_ (eg ?_ (en rfl ?_ .nil))))))))))))) ?_
   ·exact fun _ _=>trivial
   ·exact fun Lk ak ww H _ _ hN=>wp_move rfl (ev (H.f.g rfl s12)) (hN _ _ H.k rfl trivial)
   ·exact fun Lk ak ww H _ _ hN=>wp_bin rfl (ev (H.d 0 rfl rfl)) rfl rfl rfl (hN _ _ H.k (congrArg Value.bool hneg54) trivial)
   ·exact fun Lk ak ww H _ _ hN=>wp_move rfl (ev (H.d 1 rfl rfl)) (hN _ _ H.k rfl trivial)
   ·intro Lk ak ww H _ _ hN
    refine wnt_y rfl rfl rfl (H.d 2 rfl rfl) ?_
    simp [go_sem,H.f.g rfl s10,(b40.k0 H.k).cell]
    exact (hN _ _ H.k rfl trivial)
   ·intro Lk ak ww H _ _ hN
    refine wnt_y rfl rfl rfl (H.d 2 rfl rfl) ?_
    simp [go_sem,H.f.g rfl s6,(b31.k0 H.k).cell]
    exact (hN _ _ H.k rfl trivial)
   ·intro Lk ak ww H _ _ hN
    refine wnt_y rfl rfl rfl (H.d 2 rfl rfl) ?_
    simp [go_sem,(gS ak 73 (H.d 3 rfl rfl)),(gS ak 74 (H.d 4 rfl rfl))]
    refine (eqLaw_t (lofR r p) la6 la3 ww hlr ((N6.below H.k.toBelow leR).sl) ((N3.below H.k.toBelow leR).sl)).mono ?_
    rintro x wx ⟨rfl,hb⟩
    exact (hN _ _ (H.k.call hb) rfl trivial)
   ·intro Lk ak ww H _ _ hN
    refine wnt_y rfl rfl rfl (H.d 2 rfl rfl) ?_
    exact wp_not rfl (ev (H.d 5 rfl rfl)) (hN _ _ H.k rfl trivial)
   ·exact fun Lk ak ww H _ _ hN=>wp_pick rfl (ev (H.d 2 rfl rfl)) (fun h=>by cases h) (fun _=>(ev (H.d 6 rfl rfl))) (hN _ _ H.k rfl trivial)
   ·exact fun Lk ak ww H _ _ hN=>wp_move rfl (ev (H.d 7 rfl rfl)) (hN _ _ H.k rfl trivial)
   ·intro Lk ak ww H _ _ hN
    refine wnt_y rfl rfl rfl (H.d 8 rfl rfl) ?_
    exact wp_move rfl (ev (H.f.g rfl s11)) (hN _ _ H.k rfl trivial)
   ·intro Lk ak ww H _ _ hN
    refine wnt_y rfl rfl rfl (H.d 8 rfl rfl) ?_
    exact wp_move rfl (ev (H.f.g rfl s7)) (hN _ _ H.k rfl trivial)
   ·intro Lk ak ww H _ _ hN
    refine wnt_y rfl rfl rfl (H.d 8 rfl rfl) ?_
    simp [go_sem,(gS ak 79 (H.d 9 rfl rfl)),(gS ak 80 (H.d 10 rfl rfl))]
    exact (hN _ _ H.k rfl trivial)
   ·exact fun Lk ak ww H _ _ hN=>wp_pick rfl (ev (H.d 8 rfl rfl)) (fun h=>by cases h) (fun _=>(ev (H.d 11 rfl rfl))) (hN _ _ H.k rfl trivial)
   intro L a55 w56 hL hF hK hV hX;replace hz:=hF.Z hz;replace hdf:=hF.E hdf;replace s2:=hF.G s2;replace s3:=hF.G s3;replace s7:=hF.G s7;replace s6:=hF.G s6;replace s10:=hF.G s10;have s82:=gS a55 82 (hV 12 _ rfl);replace b3:=b3.k0 hK;replace b4:=b4.k0 hK;replace b31:=b31.k0 hK;replace b40:=b40.k0 hK;replace N3:=N3.below hK.toBelow leR;replace N6:=N6.below hK.toBelow leR;replace hZ:=Nat.le_trans hZ hK.size;replace hB:=hK.below0 hB;clear hF hK hV hL hX s11 s12;refine th_n ?_
   refine wp_cond_false (ev s82) ?_
   refine wp_skip ?_;refine th_n ?_;refine wp_seq ?_
   refine wp_regJ (by kernel_rfl) [13] [some (.int .i64 1)] (dlR 1) [13] [0] [] (fun _ _ _=>True) (by kernel_rfl) (by rw [hz];decide) ?_ (en rfl ?_ .nil) ?_
   ·exact fun _ _=>trivial
   ·exact fun Lk ak ww H _ _ hN=>wp_assign rfl rfl (hN _ _ H.k rfl trivial)
   intro L a57 w58 hL hF hK hV hX;replace hz:=hF.Z hz;replace hdf:=hF.E hdf;replace s2:=hF.G s2;replace s3:=hF.G s3;replace s7:=hF.G s7;replace s6:=hF.G s6;replace s10:=hF.G s10;have s13:=gS a57 13 (hV 0 _ rfl);replace b3:=b3.k0 hK;replace b4:=b4.k0 hK;replace b31:=b31.k0 hK;replace b40:=b40.k0 hK;replace N3:=N3.below hK.toBelow leR;replace N6:=N6.below hK.toBelow leR;replace hZ:=Nat.le_trans hZ hK.size;replace hB:=hK.below0 hB;clear hF hK hV hL hX s82;refine th_n ?_;refine wp_seq ?_
   have hXb:StaysX [13] (fun L aa ww=>(L 2=false→LawNew ww w36.heap.size (lofR r p) la6)∧(L 2=true→LawMk ww (lofR r p) la6 1)∧(L 3=false→aa.tmps[13]?.getD undef=.int .i64 1)):=by
    intro L aa ww w' kk vv hkk hb hX
    obtain ⟨x0,x1,x2⟩:=hX
    exact ⟨(fun h=>(x0 h).below hb leR),(fun h=>(x1 h).below hb),(fun h=>(put_ne' (hkk 13 (by simp)) vv).trans (x2 h))⟩
   refine wp_regK hXb (by kernel_rfl) [83,84,85,13] [some (.agg #[.slice la6.lows.A ((lofR r p).lows.length) la6.lows.c,.slice la6.highs.A ((lofR r p).highs.length) la6.highs.c]),some (.int .i64 1),some (.int .i64 (1+(((lofR r p).lows.length:Nat):Int)*4+(((lofR r p).highs.length:Nat):Int)*4)),some (.int .i64 (1+(((lofR r p).lows.length:Nat):Int)*4+(((lofR r p).highs.length:Nat):Int)*4))] (dlR 4) [83,84,85,13] [0,1,2,3] (blkLs [la6.lows,la6.highs]) (by kernel_rfl) (by rw [hz];decide) ?_ (en rfl ?_ (en rfl ?_ (en rfl ?_ (en rfl ?_ .nil)))) ?_
   ·exact fun _ h=>⟨(fun _=>N6.below h.toBelow leR),(fun h=>by cases h),(fun _=>s13)⟩
   ·intro Lk ak ww H _ _ hN
    simp [go_sem,H.f.g rfl s10,(b40.kp H.k (blkLs_nin (N6.neT b40 (by decide)))).cell]
    exact (hN _ _ H.k rfl (hXb.q rfl H.x))
   ·intro Lk ak ww H _ _ hN
    obtain ⟨x0,x1,x2⟩:=H.x
    exact wp_move rfl (ev (x2 (H.t 3 rfl))) (hN _ _ H.k rfl (hXb.q rfl H.x))
   ·intro Lk ak ww H _ _ hN
    obtain ⟨x0,x1,x2⟩:=H.x
    simp [go_sem,(gS ak 83 (H.d 0 rfl rfl)),(gS ak 84 (H.d 1 rfl rfl))]
    refine (markLaw_g (lofR r p) la6 1 w36.heap.size ww hlr (by omega) (by omega) (x0 H.n)).mono ?_
    rintro x wx ⟨rfl,MM,hO⟩
    exact hN _ _ (H.k.trans2 hO.kp (fun m h=>.inl h)) rfl ⟨(fun h=>by simp [upd] at h),(fun _=>MM),(fun h=>(put_ne' (by decide) _).trans (x2 h))⟩
   ·intro Lk ak ww H _ _ hN
    obtain ⟨x0,x1,x2⟩:=H.x
    exact wp_assign rfl (ev (H.d 2 rfl rfl)) (hN _ _ H.k rfl ⟨(fun h=>(x0 h).below bR leR),(fun h=>(x1 h).below bR),(fun h=>by simp [upd] at h)⟩)
   intro L a59 w60 hL hF hK hV hX
   obtain ⟨x0,x1,x2⟩:=hX
   replace hz:=hF.Z hz;replace hdf:=hF.E hdf;replace s2:=hF.G s2;replace s3:=hF.G s3;replace s7:=hF.G s7;replace s6:=hF.G s6;replace s10:=hF.G s10;have s13:=gS a59 13 (hV 3 _ rfl)
   replace b3:=b3.kp hK (blkLs_nin (N6.neT b3 (by decide)))
   replace b4:=b4.kp hK (blkLs_nin (N6.neT b4 (by decide)))
   replace b31:=b31.kp hK (blkLs_nin (N6.neT b31 (by decide)))
   replace b40:=b40.kp hK (blkLs_nin (N6.neT b40 (by decide)))
   replace N3:=N3.far1 hK.only (BL3.apart BL6 (by omega))
   clear N6
   have N6:=x1 (hL 2 (by decide))
   replace hZ:=Nat.le_trans hZ hK.size
   replace hB:=hK.below hB hB.size (blkLs_lo (BL6.lo (by omega)))
   clear hF hK hV hL x0 x1 x2 hXb
   have hneg61:decide (1+(((lofR r p).lows.length:Nat):Int)*4+(((lofR r p).highs.length:Nat):Int)*4<0)=false:=decide_eq_false (by omega)
   refine th_n ?_;refine wp_seq ?_
   refine wp_regJ (by kernel_rfl) [14] [some (.int .i64 1)] (dlR 1) [14] [0] [] (fun _ _ _=>True) (by kernel_rfl) (by rw [hz];decide) ?_ (en rfl ?_ .nil) ?_
   ·exact fun _ _=>trivial
   ·exact fun Lk ak ww H _ _ hN=>wp_assign rfl rfl (hN _ _ H.k rfl trivial)
   intro L a62 w63 hL hF hK hV hX;replace hz:=hF.Z hz;replace hdf:=hF.E hdf;replace s2:=hF.G s2;replace s3:=hF.G s3;replace s7:=hF.G s7;replace s6:=hF.G s6;replace s10:=hF.G s10;replace s13:=hF.G s13;have s14:=gS a62 14 (hV 0 _ rfl);replace b3:=b3.k0 hK;replace b4:=b4.k0 hK;replace b31:=b31.k0 hK;replace b40:=b40.k0 hK;replace N3:=N3.below hK.toBelow leR;replace N6:=N6.below hK.toBelow;replace hZ:=Nat.le_trans hZ hK.size;replace hB:=hK.below0 hB;clear hF hK hV hL hX;refine th_n ?_;refine wp_seq ?_
   have hXb:StaysX [14] (fun L aa ww=>(L 3=false→aa.tmps[14]?.getD undef=.int .i64 1)):=by
    intro L aa ww w' kk vv hkk hb hX
    have x0:=hX
    exact (fun h=>(put_ne' (hkk 14 (by simp)) vv).trans (x0 h))
   refine wp_regK hXb (by kernel_rfl) [86,87,88,14] [some (.agg #[.slice la6.lows.A ((lofR r p).lows.length) la6.lows.c,.slice la6.highs.A ((lofR r p).highs.length) la6.highs.c]),some (.int .i64 1),some (.int .i64 (1+(((lofR r p).lows.length:Nat):Int)*4+(((lofR r p).highs.length:Nat):Int)*4)),some (.int .i64 (1+(((lofR r p).lows.length:Nat):Int)*4+(((lofR r p).highs.length:Nat):Int)*4))] (dlR 4) [86,87,88,14] [0,1,2,3] [] (by kernel_rfl) (by rw [hz];decide) ?_ (en rfl ?_ (en rfl ?_ (en rfl ?_ (en rfl ?_ .nil)))) ?_
   ·exact fun _ h=>(fun _=>s14)
   ·intro Lk ak ww H _ _ hN
    simp [go_sem,H.f.g rfl s10,(b40.k0 H.k).cell]
    exact (hN _ _ H.k rfl (hXb Lk ak ww _ (some 86) _ (by simp) bR H.x))
   ·intro Lk ak ww H _ _ hN
    have x0:=H.x
    exact wp_move rfl (ev (x0 (H.t 3 rfl))) (hN _ _ H.k rfl (hXb Lk ak ww _ (some 87) _ (by simp) bR H.x))
   ·intro Lk ak ww H _ _ hN
    simp [go_sem,(gS ak 86 (H.d 0 rfl rfl)),(gS ak 87 (H.d 1 rfl rfl))]
    refine (heldLaw_c (lofR r p) la6 1 ww hlr (by omega) (by omega) (N6.below H.k.toBelow)).mono ?_
    rintro x wx ⟨rfl,hb⟩
    exact (hN _ _ (H.k.call hb) rfl (hXb Lk ak ww _ (some 88) _ (by simp) hb H.x))
   ·intro Lk ak ww H _ _ hN
    have x0:=H.x
    exact wp_assign rfl (ev (H.d 2 rfl rfl)) (hN _ _ H.k rfl (fun h=>by simp [upd] at h))
   intro L a64 w65 hL hF hK hV hX;have x0:=hX;replace hz:=hF.Z hz;replace hdf:=hF.E hdf;replace s2:=hF.G s2;replace s3:=hF.G s3;replace s7:=hF.G s7;replace s6:=hF.G s6;replace s10:=hF.G s10;replace s13:=hF.G s13;have s14:=gS a64 14 (hV 3 _ rfl);replace b3:=b3.k0 hK;replace b4:=b4.k0 hK;replace b31:=b31.k0 hK;replace b40:=b40.k0 hK;replace N3:=N3.below hK.toBelow leR;replace N6:=N6.below hK.toBelow;replace hZ:=Nat.le_trans hZ hK.size;replace hB:=hK.below0 hB;clear hF hK hV hL x0 hXb
   have hneg66:decide (1+(((lofR r p).lows.length:Nat):Int)*4+(((lofR r p).highs.length:Nat):Int)*4<0)=false:=decide_eq_false (by omega)
   refine th_n ?_;refine wp_seq ?_;refine wp_seq ?_
   refine wp_regJ (by kernel_rfl) [89,90] [some (.int .i64 (1+(((lofR r p).lows.length:Nat):Int)*4+(((lofR r p).highs.length:Nat):Int)*4)),some (.bool false)] (dlR 2) [89,90] [0,1] [] (fun _ _ _=>True) (by kernel_rfl) (by rw [hz];decide) ?_ (en rfl ?_ (en rfl ?_ .nil)) ?_
   ·exact fun _ _=>trivial
   ·exact fun Lk ak ww H _ _ hN=>wp_move rfl (ev (H.f.g rfl s14)) (hN _ _ H.k rfl trivial)
   ·exact fun Lk ak ww H _ _ hN=>wp_bin rfl (ev (H.d 0 rfl rfl)) rfl rfl rfl (hN _ _ H.k (congrArg Value.bool hneg66) trivial)
   intro L a67 w68 hL hF hK hV hX;replace hz:=hF.Z hz;replace hdf:=hF.E hdf;replace s2:=hF.G s2;replace s3:=hF.G s3;replace s7:=hF.G s7;replace s6:=hF.G s6;replace s10:=hF.G s10;replace s13:=hF.G s13;replace s14:=hF.G s14;have s90:=gS a67 90 (hV 1 _ rfl);replace b3:=b3.k0 hK;replace b4:=b4.k0 hK;replace b31:=b31.k0 hK;replace b40:=b40.k0 hK;replace N3:=N3.below hK.toBelow leR;replace N6:=N6.below hK.toBelow;replace hZ:=Nat.le_trans hZ hK.size;replace hB:=hK.below0 hB;clear hF hK hV hL hX;refine th_n ?_
   refine wp_cond_false (ev s90) ?_
   refine wp_skip ?_;refine th_n ?_;refine wp_seq ?_;refine wp_seq ?_
   refine wp_regJ (by kernel_rfl) [91,92,93] [some (.int .i64 (1+(((lofR r p).lows.length:Nat):Int)*4+(((lofR r p).highs.length:Nat):Int)*4)),some (.int .i64 (1+(((lofR r p).lows.length:Nat):Int)*4+(((lofR r p).highs.length:Nat):Int)*4)),some (.bool false)] (dlR 3) [91,92,93] [0,1,2] [] (fun _ _ _=>True) (by kernel_rfl) (by rw [hz];decide) ?_ (en rfl ?_ (en rfl ?_ (en rfl ?_ .nil))) ?_
   ·exact fun _ _=>trivial
   ·exact fun Lk ak ww H _ _ hN=>wp_move rfl (ev (H.f.g rfl s14)) (hN _ _ H.k rfl trivial)
   ·exact fun Lk ak ww H _ _ hN=>wp_move rfl (ev (H.f.g rfl s13)) (hN _ _ H.k rfl trivial)
   ·intro Lk ak ww H _ _ hN
    simp [go_sem,(gS ak 91 (H.d 0 rfl rfl)),(gS ak 92 (H.d 1 rfl rfl))]
    exact (hN _ _ H.k rfl trivial)
   intro L a69 w70 hL hF hK hV hX;replace hz:=hF.Z hz;replace hdf:=hF.E hdf;replace s2:=hF.G s2;replace s3:=hF.G s3;replace s7:=hF.G s7;replace s6:=hF.G s6;replace s10:=hF.G s10;replace s13:=hF.G s13;have s93:=gS a69 93 (hV 2 _ rfl);replace b3:=b3.k0 hK;replace b4:=b4.k0 hK;replace b31:=b31.k0 hK;replace b40:=b40.k0 hK;replace N3:=N3.below hK.toBelow leR;replace N6:=N6.below hK.toBelow;replace hZ:=Nat.le_trans hZ hK.size;replace hB:=hK.below0 hB;clear hF hK hV hL hX s14 s90;refine th_n ?_
   refine wp_cond_false (ev s93) ?_
   refine wp_skip ?_;refine th_n ?_;refine wp_seq ?_
   have hXb:StaysX [15,94,96,98,99,100] (fun L aa ww=>(L 1=true→(fun ww v=>∃ m9,v=roomV r m9∧RoomNew ww w70.heap.size r m9) ww (aa.tmps[96]?.getD undef))∧(L 3=true→(fun ww v=>∃ m10,v=.agg #[.slice m10.A p.length m10.c]∧RegionNew ww w70.heap.size p m10) ww (aa.tmps[98]?.getD undef))∧(L 4=true→(fun ww v=>∃ la11,v=.tuple #[.agg #[.slice la11.lows.A ((lofR r p).lows.length) la11.lows.c,.slice la11.highs.A ((lofR r p).highs.length) la11.highs.c],.bool (lofOk r p)]∧LawNew ww w70.heap.size (lofR r p) la11) ww (aa.tmps[99]?.getD undef))∧(L 5=true→(fun ww v=>∃ la11,v=.tuple #[.agg #[.slice la11.lows.A ((lofR r p).lows.length) la11.lows.c,.slice la11.highs.A ((lofR r p).highs.length) la11.highs.c],.bool (lofOk r p)]∧LawNew ww w70.heap.size (lofR r p) la11) ww (aa.tmps[94]?.getD undef))∧(L 6=true→(fun ww v=>∃ la11,v=.agg #[.slice la11.lows.A ((lofR r p).lows.length) la11.lows.c,.slice la11.highs.A ((lofR r p).highs.length) la11.highs.c]∧LawNew ww w70.heap.size (lofR r p) la11) ww (aa.tmps[100]?.getD undef))∧(L 8=true→BoxX w70 aa ww 15 32 [.slice none 0 0,.slice none 0 0] (L 9) (fun ww vs=>∃ la11,vs=[.slice la11.lows.A ((lofR r p).lows.length) la11.lows.c,.slice la11.highs.A ((lofR r p).highs.length) la11.highs.c]∧LawNew ww w70.heap.size (lofR r p) la11))):=by
    intro L aa ww w' kk vv hkk hb hX
    obtain ⟨x0,x1,x2,x3,x4,x5⟩:=hX
    exact ⟨(fun h=>by rw [put_ne' (hkk 96 (by simp))];obtain ⟨m9',e,f9'⟩:=x0 h;exact ⟨m9',e,f9'.below hb leR⟩),(fun h=>by rw [put_ne' (hkk 98 (by simp))];obtain ⟨m10',e,f10'⟩:=x1 h;exact ⟨m10',e,f10'.below hb leR⟩),(fun h=>by rw [put_ne' (hkk 99 (by simp))];obtain ⟨la11',e,f11'⟩:=x2 h;exact ⟨la11',e,f11'.below hb leR⟩),(fun h=>by rw [put_ne' (hkk 94 (by simp))];obtain ⟨la11',e,f11'⟩:=x3 h;exact ⟨la11',e,f11'.below hb leR⟩),(fun h=>by rw [put_ne' (hkk 100 (by simp))];obtain ⟨la11',e,f11'⟩:=x4 h;exact ⟨la11',e,f11'.below hb leR⟩),(fun h=>((x5 h).bel hb (fun _ ⟨la11',e,f11'⟩=>⟨la11',e,f11'.below hb leR⟩)).put (hkk 15 (by simp)) _)⟩
   refine wp_regK hXb (by kernel_rfl) [95,96,97,98,99,94,100,101,15,0,16] [some (roomV r r_a),none,some (.agg #[.slice p_a.A p.length p_a.c]),none,none,none,none,some (.bool (lofOk r p)),none,none,some (.bool (lofOk r p))] ([[],[0],[],[0,1,2],[0,1,2,3],[0,1,2,3,4],[0,1,2,3,4,5],[0,1,2,3,4,5],[],[0,1,2,3,4,5,6,8],[0,1,2,3,4,5,6,7,8,9]]) [95,96,97,98,99,94,100,101,15,16] [0,1,2,3,4,5,6,7,8,9,10] [] (by kernel_rfl) (by rw [hz];decide) ?_ (en rfl ?_ (en rfl ?_ (en rfl ?_ (en rfl ?_ (en rfl ?_ (en rfl ?_ (en rfl ?_ (en rfl ?_ (en rfl ?_ (en rfl ?_ (en rfl ?_ .nil))))))))))) ?_
   ·exact fun _ h=>⟨(fun h=>by cases h),(fun h=>by cases h),(fun h=>by cases h),(fun h=>by cases h),(fun h=>by cases h),(fun h=>by cases h)⟩
   ·intro Lk ak ww H _ _ hN
    simp [go_sem,H.f.g rfl s2,(b3.k0 H.k).cell]
    exact (hN _ _ H.k rfl (hXb.q rfl H.x))
   ·intro Lk ak ww H _ _ hN
    obtain ⟨x0,x1,x2,x3,x4,x5⟩:=H.x
    simp [go_sem,(gS ak 95 (H.d 0 rfl rfl))]
    have hBi:=H.k.below0 hB
    refine (toRoom_c r r_a ww (by have:=dec_f q7;have:=dec_f q18;(try unfold regionLen at *);omega) (hs_r.below hBi)).mono ?_
    rintro x wx ⟨m9,rfl,f0,hb⟩
    have f9:=f0.mono H.k.size
    exact (hN _ _ (H.k.call hb) trivial ⟨(fun _=>by rw [put_get_self (H.f.lt (by rw [hz];decide))];exact ⟨m9,rfl,f9⟩),(fun h=>by rw [put_ne' (by decide)];obtain ⟨m10',e,f10'⟩:=x1 h;exact ⟨m10',e,f10'.below hb leR⟩),(fun h=>by rw [put_ne' (by decide)];obtain ⟨la11',e,f11'⟩:=x2 h;exact ⟨la11',e,f11'.below hb leR⟩),(fun h=>by rw [put_ne' (by decide)];obtain ⟨la11',e,f11'⟩:=x3 h;exact ⟨la11',e,f11'.below hb leR⟩),(fun h=>by rw [put_ne' (by decide)];obtain ⟨la11',e,f11'⟩:=x4 h;exact ⟨la11',e,f11'.below hb leR⟩),(fun h=>((x5 h).bel hb (fun _ ⟨la11',e,f11'⟩=>⟨la11',e,f11'.below hb leR⟩)).put (by decide) _)⟩)
   ·intro Lk ak ww H _ _ hN
    simp [go_sem,H.f.g rfl s3,(b4.k0 H.k).cell]
    exact (hN _ _ H.k rfl (hXb.q rfl H.x))
   ·intro Lk ak ww H _ _ hN
    obtain ⟨x0,x1,x2,x3,x4,x5⟩:=H.x
    simp [go_sem,(gS ak 97 (H.d 2 rfl rfl))]
    have hBi:=H.k.below0 hB
    refine (toRegion_c p p_a ww (by have:=dec_f q7;have:=dec_f q18;(try unfold regionLen at *);omega) ⟨(hs_p.halves.below hBi)⟩).mono ?_
    rintro x wx ⟨m10,rfl,f0,hb⟩
    have f10:=f0.mono H.k.size
    exact (hN _ _ (H.k.call hb) trivial ⟨(fun h=>by rw [put_ne' (by decide)];obtain ⟨m9',e,f9'⟩:=x0 h;exact ⟨m9',e,f9'.below hb leR⟩),(fun _=>by rw [put_get_self (H.f.lt (by rw [hz];decide))];exact ⟨m10,rfl,f10⟩),(fun h=>by rw [put_ne' (by decide)];obtain ⟨la11',e,f11'⟩:=x2 h;exact ⟨la11',e,f11'.below hb leR⟩),(fun h=>by rw [put_ne' (by decide)];obtain ⟨la11',e,f11'⟩:=x3 h;exact ⟨la11',e,f11'.below hb leR⟩),(fun h=>by rw [put_ne' (by decide)];obtain ⟨la11',e,f11'⟩:=x4 h;exact ⟨la11',e,f11'.below hb leR⟩),(fun h=>((x5 h).bel hb (fun _ ⟨la11',e,f11'⟩=>⟨la11',e,f11'.below hb leR⟩)).put (by decide) _)⟩)
   ·intro Lk ak ww H _ _ hN
    obtain ⟨x0,x1,x2,x3,x4,x5⟩:=H.x
    obtain ⟨m9,ee1,f9⟩:=x0 (H.r 1 rfl)
    obtain ⟨m10,ee3,f10⟩:=x1 (H.r 3 rfl)
    simp [go_sem,ee1,ee3]
    refine (iLawOf_c r p m9 m10 ww (by have:=dec_f q7;have:=dec_f q18;(try unfold regionLen at *);omega) hin_r f9.sl f9.nil (by have:=dec_f q7;have:=dec_f q18;(try unfold regionLen at *);omega) hin_p.halves (f10.halves.out halfC_len) f10.halves.nilcap).mono ?_
    rintro x wx ⟨la11,rfl,f0,hb⟩
    have f11:=f0.mono H.k.size
    exact (hN _ _ (H.k.call hb) trivial ⟨(fun h=>by rw [put_ne' (by decide)];obtain ⟨m9',e,f9'⟩:=x0 h;exact ⟨m9',e,f9'.below hb leR⟩),(fun h=>by rw [put_ne' (by decide)];obtain ⟨m10',e,f10'⟩:=x1 h;exact ⟨m10',e,f10'.below hb leR⟩),(fun _=>by rw [put_get_self (H.f.lt (by rw [hz];decide))];exact ⟨la11,rfl,f11⟩),(fun h=>by rw [put_ne' (by decide)];obtain ⟨la11',e,f11'⟩:=x3 h;exact ⟨la11',e,f11'.below hb leR⟩),(fun h=>by rw [put_ne' (by decide)];obtain ⟨la11',e,f11'⟩:=x4 h;exact ⟨la11',e,f11'.below hb leR⟩),(fun h=>((x5 h).bel hb (fun _ ⟨la11',e,f11'⟩=>⟨la11',e,f11'.below hb leR⟩)).put (by decide) _)⟩)
   ·intro Lk ak ww H _ _ hN
    obtain ⟨x0,x1,x2,x3,x4,x5⟩:=H.x
    obtain ⟨la11,ee4,f11⟩:=x2 (H.r 4 rfl)
    exact wp_move rfl (ev ee4) (hN _ _ H.k trivial ⟨(fun h=>by rw [put_ne' (by decide)];obtain ⟨m9',e,f9'⟩:=x0 h;exact ⟨m9',e,f9'.below bR leR⟩),(fun h=>by rw [put_ne' (by decide)];obtain ⟨m10',e,f10'⟩:=x1 h;exact ⟨m10',e,f10'.below bR leR⟩),(fun h=>by rw [put_ne' (by decide)];obtain ⟨la11',e,f11'⟩:=x2 h;exact ⟨la11',e,f11'.below bR leR⟩),(fun _=>by rw [put_get_self (H.f.lt (by rw [hz];decide))];exact ⟨la11,rfl,f11⟩),(fun h=>by rw [put_ne' (by decide)];obtain ⟨la11',e,f11'⟩:=x4 h;exact ⟨la11',e,f11'.below bR leR⟩),(fun h=>((x5 h).bel bR (fun _ ⟨la11',e,f11'⟩=>⟨la11',e,f11'.below bR leR⟩)).put (by decide) _)⟩)
   ·intro Lk ak ww H _ _ hN
    obtain ⟨x0,x1,x2,x3,x4,x5⟩:=H.x
    obtain ⟨la11,ee5,f11⟩:=x3 (H.r 5 rfl)
    exact wp_extract rfl (ev ee5) rfl (hN _ _ H.k trivial ⟨(fun h=>by rw [put_ne' (by decide)];obtain ⟨m9',e,f9'⟩:=x0 h;exact ⟨m9',e,f9'.below bR leR⟩),(fun h=>by rw [put_ne' (by decide)];obtain ⟨m10',e,f10'⟩:=x1 h;exact ⟨m10',e,f10'.below bR leR⟩),(fun h=>by rw [put_ne' (by decide)];obtain ⟨la11',e,f11'⟩:=x2 h;exact ⟨la11',e,f11'.below bR leR⟩),(fun h=>by rw [put_ne' (by decide)];obtain ⟨la11',e,f11'⟩:=x3 h;exact ⟨la11',e,f11'.below bR leR⟩),(fun _=>by rw [put_get_self (H.f.lt (by rw [hz];decide))];exact ⟨la11,rfl,f11⟩),(fun h=>((x5 h).bel bR (fun _ ⟨la11',e,f11'⟩=>⟨la11',e,f11'.below bR leR⟩)).put (by decide) _)⟩)
   ·intro Lk ak ww H _ _ hN
    obtain ⟨x0,x1,x2,x3,x4,x5⟩:=H.x
    obtain ⟨la11,ee5,f11⟩:=x3 (H.r 5 rfl)
    exact wp_extract rfl (ev ee5) rfl (hN _ _ H.k rfl (hXb.q rfl H.x))
   ·intro Lk ak ww H _ _ hN
    obtain ⟨x0,x1,x2,x3,x4,x5⟩:=H.x
    simp [go_sem]
    exact hN _ _ (H.k.alloc _) trivial ⟨(fun h=>by rw [put_ne' (by decide)];obtain ⟨m9',e,f9'⟩:=x0 h;exact ⟨m9',e,f9'.below (below_al bR _) leR⟩),(fun h=>by rw [put_ne' (by decide)];obtain ⟨m10',e,f10'⟩:=x1 h;exact ⟨m10',e,f10'.below (below_al bR _) leR⟩),(fun h=>by rw [put_ne' (by decide)];obtain ⟨la11',e,f11'⟩:=x2 h;exact ⟨la11',e,f11'.below (below_al bR _) leR⟩),(fun h=>by rw [put_ne' (by decide)];obtain ⟨la11',e,f11'⟩:=x3 h;exact ⟨la11',e,f11'.below (below_al bR _) leR⟩),(fun h=>by rw [put_ne' (by decide)];obtain ⟨la11',e,f11'⟩:=x4 h;exact ⟨la11',e,f11'.below (below_al bR _) leR⟩),(fun _=>by rw [show upd Lk 8 9=false from H.t 9 rfl];exact BoxX.new (s:=15) (H.f.lt (by rw [hz];decide)) H.k.size [.slice none 0 0,.slice none 0 0])⟩
   ·intro Lk ak ww H _ _ hN
    obtain ⟨x0,x1,x2,x3,x4,x5⟩:=H.x
    obtain ⟨la11,ee6,f11⟩:=x4 (H.r 6 rfl)
    obtain ⟨g,eg,hg,y,_⟩:=x5 (H.r 8 rfl)
    have HT:=y H.n
    simp [go_sem,ee6,eg,HT.cell,HT.frz]
    have f11:=f11.otherT HT (by decide) [.slice la11.lows.A ((lofR r p).lows.length) la11.lows.c,.slice la11.highs.A ((lofR r p).highs.length) la11.highs.c] 0
    exact hN undef _ (H.k.store (.inl hg) [.slice la11.lows.A ((lofR r p).lows.length) la11.lows.c,.slice la11.highs.A ((lofR r p).highs.length) la11.highs.c] 0) trivial ⟨(fun h=>by obtain ⟨m9',e,f9'⟩:=x0 h;exact ⟨m9',e,f9'.otherT HT (by decide) (by decide) [.slice la11.lows.A ((lofR r p).lows.length) la11.lows.c,.slice la11.highs.A ((lofR r p).highs.length) la11.highs.c] 0⟩),(fun h=>by obtain ⟨m10',e,f10'⟩:=x1 h;exact ⟨m10',e,f10'.otherT HT (by decide) [.slice la11.lows.A ((lofR r p).lows.length) la11.lows.c,.slice la11.highs.A ((lofR r p).highs.length) la11.highs.c] 0⟩),(fun h=>by obtain ⟨la11',e,f11'⟩:=x2 h;exact ⟨la11',e,f11'.otherT HT (by decide) [.slice la11.lows.A ((lofR r p).lows.length) la11.lows.c,.slice la11.highs.A ((lofR r p).highs.length) la11.highs.c] 0⟩),(fun h=>by obtain ⟨la11',e,f11'⟩:=x3 h;exact ⟨la11',e,f11'.otherT HT (by decide) [.slice la11.lows.A ((lofR r p).lows.length) la11.lows.c,.slice la11.highs.A ((lofR r p).highs.length) la11.highs.c] 0⟩),(fun h=>by obtain ⟨la11',e,f11'⟩:=x4 h;exact ⟨la11',e,f11'.otherT HT (by decide) [.slice la11.lows.A ((lofR r p).lows.length) la11.lows.c,.slice la11.highs.A ((lofR r p).highs.length) la11.highs.c] 0⟩),(fun _=>BoxX.set eg hg HT (us:=[.slice la11.lows.A ((lofR r p).lows.length) la11.lows.c,.slice la11.highs.A ((lofR r p).highs.length) la11.highs.c]) rfl ⟨la11,rfl,f11⟩)⟩
   ·exact fun Lk ak ww H _ _ hN=>wp_assign rfl (ev (H.d 7 rfl rfl)) (hN _ _ H.k rfl (hXb.q rfl H.x))
   intro L a71 w72 hL hF hK hV hX
   obtain ⟨x0,x1,x2,x3,x4,x5⟩:=hX
   replace hz:=hF.Z hz;replace hdf:=hF.E hdf;replace s7:=hF.G s7;replace s6:=hF.G s6;replace s10:=hF.G s10;replace s13:=hF.G s13;have s16:=gS a71 16 (hV 10 _ rfl);replace b31:=b31.k0 hK;replace b40:=b40.k0 hK
   obtain ⟨g73,s15,lg73,-,b73⟩:=x5 (hL 8 (by decide))
   obtain ⟨_,b73,la11,rfl,N11⟩:=b73 (hL 9 (by decide))
   have ug73:=b73.lt
   replace N3:=N3.below hK.toBelow leR;replace N6:=N6.below hK.toBelow;have BL11:BlkL w70.heap.size w72.heap.size [la11.lows,la11.highs]:=N11.blkL;have zw70:=hZ;have zw72:=hK.size;replace hZ:=Nat.le_refl w72.heap.size;replace hB:=hK.below0 hB;clear hF hK hV hL x0 x1 x2 x3 x4 x5 hXb s2 s3 s93 b3 b4;refine th_n ?_;refine wp_seq ?_;refine wp_seq ?_
   refine wp_regJ (by kernel_rfl) [102,103,104,105,106,107,108,109,110] [some (.agg #[.slice la11.lows.A ((lofR r p).lows.length) la11.lows.c,.slice la11.highs.A ((lofR r p).highs.length) la11.highs.c]),some (.agg #[.slice la3.lows.A ((lofR r p).lows.length) la3.lows.c,.slice la3.highs.A ((lofR r p).highs.length) la3.highs.c]),some (.bool true),some (.bool false),some (.bool false),some (.bool (lofOk r p)),some (.bool (lofOk r p)),some (.bool false),some (.bool false)] (dlR 9) [102,103,104,105,106,107,108,109,110] [0,1,2,3,4,5,6,7,8] [] (fun _ _ _=>True) (by kernel_rfl) (by rw [hz];decide) ?_ (en rfl ?_ (en rfl ?_ (en rfl ?_ (en rfl ?_ (en rfl ?_ (eg ?_ (eg ?_ (eg ?_ (en rfl ?_ .nil))))))))) ?_
   ·exact fun _ _=>trivial
   ·intro Lk ak ww H _ _ hN
    simp [go_sem,H.f.g rfl s15,(b73.k0 H.k).cell]
    exact (hN _ _ H.k rfl trivial)
   ·intro Lk ak ww H _ _ hN
    simp [go_sem,H.f.g rfl s6,(b31.k0 H.k).cell]
    exact (hN _ _ H.k rfl trivial)
   ·intro Lk ak ww H _ _ hN
    simp [go_sem,(gS ak 102 (H.d 0 rfl rfl)),(gS ak 103 (H.d 1 rfl rfl))]
    refine (eqLaw_t (lofR r p) la11 la3 ww hlr ((N11.below H.k.toBelow leR).sl) ((N3.below H.k.toBelow leR).sl)).mono ?_
    rintro x wx ⟨rfl,hb⟩
    exact (hN _ _ (H.k.call hb) rfl trivial)
   ·exact fun Lk ak ww H _ _ hN=>wp_not rfl (ev (H.d 2 rfl rfl)) (hN _ _ H.k rfl trivial)
   ·exact fun Lk ak ww H _ _ hN=>wp_move rfl (ev (H.d 3 rfl rfl)) (hN _ _ H.k rfl trivial)
   ·intro Lk ak ww H _ _ hN
    refine wnt_y rfl rfl rfl (H.d 4 rfl rfl) ?_
    exact wp_move rfl (ev (H.f.g rfl s16)) (hN _ _ H.k rfl trivial)
   ·intro Lk ak ww H _ _ hN
    refine wnt_y rfl rfl rfl (H.d 4 rfl rfl) ?_
    exact wp_move rfl (ev (H.f.g rfl s7)) (hN _ _ H.k rfl trivial)
   ·intro Lk ak ww H _ _ hN
    refine wnt_y rfl rfl rfl (H.d 4 rfl rfl) ?_
    simp [go_sem,(gS ak 107 (H.d 5 rfl rfl)),(gS ak 108 (H.d 6 rfl rfl))]
    exact (hN _ _ H.k rfl trivial)
   ·exact fun Lk ak ww H _ _ hN=>wp_pick rfl (ev (H.d 4 rfl rfl)) (fun h=>by cases h) (fun _=>(ev (H.d 7 rfl rfl))) (hN _ _ H.k rfl trivial)
   intro L a74 w75 hL hF hK hV hX;replace hz:=hF.Z hz;replace hdf:=hF.E hdf;replace s10:=hF.G s10;replace s13:=hF.G s13;have s110:=gS a74 110 (hV 8 _ rfl);replace b40:=b40.k0 hK;replace N6:=N6.below hK.toBelow;replace hZ:=Nat.le_trans hZ hK.size;replace hB:=hK.below0 hB;clear hF hK hV hL hX s7 s6 s16 s15 b31 b73 N3 N11;refine th_n ?_
   refine wp_cond_false (ev s110) ?_
   refine wp_skip ?_;refine th_n ?_;refine wp_seq ?_
   refine wp_regJ (by kernel_rfl) [14] [some (.int .i64 1)] (dlR 1) [14] [0] [] (fun _ _ _=>True) (by kernel_rfl) (by rw [hz];decide) ?_ (en rfl ?_ .nil) ?_
   ·exact fun _ _=>trivial
   ·exact fun Lk ak ww H _ _ hN=>wp_assign rfl rfl (hN _ _ H.k rfl trivial)
   intro L a76 w77 hL hF hK hV hX;replace hz:=hF.Z hz;replace hdf:=hF.E hdf;replace s10:=hF.G s10;replace s13:=hF.G s13;have s14:=gS a76 14 (hV 0 _ rfl);replace b40:=b40.k0 hK;replace N6:=N6.below hK.toBelow;replace hZ:=Nat.le_trans hZ hK.size;replace hB:=hK.below0 hB;clear hF hK hV hL hX s110;refine th_n ?_;refine wp_seq ?_
   have hXb:StaysX [14] (fun L aa ww=>(L 3=false→aa.tmps[14]?.getD undef=.int .i64 1)):=by
    intro L aa ww w' kk vv hkk hb hX
    have x0:=hX
    exact (fun h=>(put_ne' (hkk 14 (by simp)) vv).trans (x0 h))
   refine wp_regK hXb (by kernel_rfl) [111,112,113,14] [some (.agg #[.slice la6.lows.A ((lofR r p).lows.length) la6.lows.c,.slice la6.highs.A ((lofR r p).highs.length) la6.highs.c]),some (.int .i64 1),some (.int .i64 (1+(((lofR r p).lows.length:Nat):Int)*4+(((lofR r p).highs.length:Nat):Int)*4)),some (.int .i64 (1+(((lofR r p).lows.length:Nat):Int)*4+(((lofR r p).highs.length:Nat):Int)*4))] (dlR 4) [111,112,113,14] [0,1,2,3] [] (by kernel_rfl) (by rw [hz];decide) ?_ (en rfl ?_ (en rfl ?_ (en rfl ?_ (en rfl ?_ .nil)))) ?_
   ·exact fun _ h=>(fun _=>s14)
   ·intro Lk ak ww H _ _ hN
    simp [go_sem,H.f.g rfl s10,(b40.k0 H.k).cell]
    exact (hN _ _ H.k rfl (hXb Lk ak ww _ (some 111) _ (by simp) bR H.x))
   ·intro Lk ak ww H _ _ hN
    have x0:=H.x
    exact wp_move rfl (ev (x0 (H.t 3 rfl))) (hN _ _ H.k rfl (hXb Lk ak ww _ (some 112) _ (by simp) bR H.x))
   ·intro Lk ak ww H _ _ hN
    simp [go_sem,(gS ak 111 (H.d 0 rfl rfl)),(gS ak 112 (H.d 1 rfl rfl))]
    refine (heldLaw_c (lofR r p) la6 1 ww hlr (by omega) (by omega) (N6.below H.k.toBelow)).mono ?_
    rintro x wx ⟨rfl,hb⟩
    exact (hN _ _ (H.k.call hb) rfl (hXb Lk ak ww _ (some 113) _ (by simp) hb H.x))
   ·intro Lk ak ww H _ _ hN
    have x0:=H.x
    exact wp_assign rfl (ev (H.d 2 rfl rfl)) (hN _ _ H.k rfl (fun h=>by simp [upd] at h))
   intro L a78 w79 hL hF hK hV hX;have x0:=hX;replace hz:=hF.Z hz;replace hdf:=hF.E hdf;replace s13:=hF.G s13;have s14:=gS a78 14 (hV 3 _ rfl);replace hZ:=Nat.le_trans hZ hK.size;replace hB:=hK.below0 hB;clear hF hK hV hL x0 hXb s10 b40 N6
   have hneg80:decide (1+(((lofR r p).lows.length:Nat):Int)*4+(((lofR r p).highs.length:Nat):Int)*4<0)=false:=decide_eq_false (by omega)
   refine th_n ?_;refine wp_seq ?_;refine wp_seq ?_
   refine wp_regJ (by kernel_rfl) [114,115] [some (.int .i64 (1+(((lofR r p).lows.length:Nat):Int)*4+(((lofR r p).highs.length:Nat):Int)*4)),some (.bool false)] (dlR 2) [114,115] [0,1] [] (fun _ _ _=>True) (by kernel_rfl) (by rw [hz];decide) ?_ (en rfl ?_ (en rfl ?_ .nil)) ?_
   ·exact fun _ _=>trivial
   ·exact fun Lk ak ww H _ _ hN=>wp_move rfl (ev (H.f.g rfl s14)) (hN _ _ H.k rfl trivial)
   ·exact fun Lk ak ww H _ _ hN=>wp_bin rfl (ev (H.d 0 rfl rfl)) rfl rfl rfl (hN _ _ H.k (congrArg Value.bool hneg80) trivial)
   intro L a81 w82 hL hF hK hV hX;replace hz:=hF.Z hz;replace hdf:=hF.E hdf;replace s13:=hF.G s13;replace s14:=hF.G s14;have s115:=gS a81 115 (hV 1 _ rfl);replace hZ:=Nat.le_trans hZ hK.size;replace hB:=hK.below0 hB;clear hF hK hV hL hX;refine th_n ?_
   refine wp_cond_false (ev s115) ?_
   refine wp_skip ?_;refine th_n ?_;refine wp_seq ?_;refine wp_seq ?_
   refine wp_regJ (by kernel_rfl) [116,117,118] [some (.int .i64 (1+(((lofR r p).lows.length:Nat):Int)*4+(((lofR r p).highs.length:Nat):Int)*4)),some (.int .i64 (1+(((lofR r p).lows.length:Nat):Int)*4+(((lofR r p).highs.length:Nat):Int)*4)),some (.bool false)] (dlR 3) [116,117,118] [0,1,2] [] (fun _ _ _=>True) (by kernel_rfl) (by rw [hz];decide) ?_ (en rfl ?_ (en rfl ?_ (en rfl ?_ .nil))) ?_
   ·exact fun _ _=>trivial
   ·exact fun Lk ak ww H _ _ hN=>wp_move rfl (ev (H.f.g rfl s14)) (hN _ _ H.k rfl trivial)
   ·exact fun Lk ak ww H _ _ hN=>wp_move rfl (ev (H.f.g rfl s13)) (hN _ _ H.k rfl trivial)
   ·intro Lk ak ww H _ _ hN
    simp [go_sem,(gS ak 116 (H.d 0 rfl rfl)),(gS ak 117 (H.d 1 rfl rfl))]
    exact (hN _ _ H.k rfl trivial)
   intro L a83 w84 hL hF hK hV hX;replace hz:=hF.Z hz;replace hdf:=hF.E hdf;have s118:=gS a83 118 (hV 2 _ rfl);replace hZ:=Nat.le_trans hZ hK.size;replace hB:=hK.below0 hB;clear hF hK hV hL hX s13 s14 s115;refine th_n ?_
   refine wp_cond_false (ev s118) ?_
   refine wp_skip ?_;refine th_n ?_;refine wp_seq ?_
   refine wp_regJ (by kernel_rfl) [4] [some (.bool true)] (dlR 1) [4] [0] [] (fun _ _ _=>True) (by kernel_rfl) (by rw [hz];decide) ?_ (en rfl ?_ .nil) ?_
   ·exact fun _ _=>trivial
   ·exact fun Lk ak ww H _ _ hN=>wp_assign rfl rfl (hN _ _ H.k rfl trivial)
   intro L a85 w86 hL hF hK hV hX;replace hz:=hF.Z hz;replace hdf:=hF.E hdf;have s4:=gS a85 4 (hV 0 _ rfl);replace hZ:=Nat.le_trans hZ hK.size;replace hB:=hK.below0 hB;clear hF hK hV hL hX s118;refine th_n ?_
   refine wp_ret ?_
   refine bodyPost_ret (v:=.bool true) (by simp [results,Tryz.results3,go_sem,s4]) hdf ?_
   exact ⟨rfl,hB⟩
set_option maxRecDepth 100000 in
theorem lifted_LawOf (os:Os) (started:os.Started) (H:Type) (enc:TypeId × Value→H) :
 ReturnsInHanded {} Tryz.checked os 3 .any (Rows.fnExactLawOfSpec.pre6 enc Tryz.prog Tryz.f3 Rows.fnExactLawOfRow.domain false) (Rows.fnExactLawOfSpec.post enc Tryz.prog Tryz.f3 false true false false):=by
 refine returnsInHanded_of_change (C:=Tryz.checked) own_ started (by kernel_rfl) Tryz.func3
  (ChangeSpec.witness6 (enc:=enc) (C:=Tryz.checked) false ⟨#[],#[.agg #[.slice none 0 0,.int .i64 0,.int .i64 0,.int .i64 0,.int .i64 0,.int .i64 0,.slice none 0 0,.slice none 0 0],.agg #[.slice none 0 0]],[]⟩ 8 (by kernel_rfl) (by kernel_rfl) (by kernel_rfl) (by kernel_rfl)) ?_
 intro W base args ds gs before hval0 hW hcnd _
 have hval:∀ (j:Nat) t v,Tryz.f3.params[j]? = some t→args[j]? = some v→Value.okWide Tryz.prog W .any base t v:=hval0
 have hW':=hW
 obtain ⟨p,q,hA0,hV,rfl,hfz,hnd⟩:=hW
 have hA:DataW.TrodAll enc Tryz.prog W 0 (fun _=>true) true Tryz.f3.params.toList args.toList ds p:=hA0
 rw [Tryz.params3] at hA hval
 obtain ⟨v0,vs0,d0,ds0,p0,q0,hargs,rfl,rfl,h0,r0⟩:=trodAll_cons hA
 obtain ⟨v1,vs1,d1,ds1,p1,q1,rfl,rfl,rfl,h1,r1⟩:=trodAll_cons r0
 obtain ⟨rfl,rfl,rfl⟩:=trodAll_nil r1
 obtain rfl:args=#[v0,v1]:=by cases args;simp_all
 obtain ⟨rfl,rfl⟩:=trodVars_none hV
 have k0:=h0
 have lt0:∀ x∈p0,x.block<W.heap.size:=by obtain ⟨m,hm⟩:=k0;exact DataW.trod_lt m _ _ _ hm
 have ok0:=hval 0 27 v0 rfl rfl
 have k1:=h1
 have lt1:∀ x∈p1,x.block<W.heap.size:=by obtain ⟨m,hm⟩:=k1;exact DataW.trod_lt m _ _ _ hm
 have ok1:=hval 1 25 v1 rfl rfl
 obtain ⟨r,r_a,hin_r,rfl,hl_r,hs_r⟩:=openRoom ok0 h0
 obtain ⟨p,p_a,hin_p,rfl,hl_p,hs_p⟩:=openRegion ok1 h1
 refine (walkLawOf W r r_a hin_r hl_r hs_r p p_a hin_p hl_p hs_p).mono fun e W' ⟨he,bel⟩=>?_
 subst he
 exact ⟨_,rfl,_,_,_,[],_,[],hW',trodAll_mk1 (shut_bool Tryz.underlying4 _),(trodAll_cons_mk (Below.trod laidOut_ (by kernel_rfl) (of_decide_eq_true (by kernel_rfl)) k0 bel lt0) (trodAll_cons_mk (Below.trod laidOut_ (by kernel_rfl) (of_decide_eq_true (by kernel_rfl)) k1 bel lt1) trodAll_mk0)),rfl,bel.frame _,fun h=>by cases h⟩
/-- The statement. -/
theorem law_LawOf:Rows.FnExactLawOfSaid :=
 OpenClaim.holds_of_wide 3 Tryz.f3 rfl rfl rfl rfl rfl rfl rfl ⟨rfl,rfl,rfl,rfl,rfl⟩ rfl rfl rfl rfl rfl (by kernel_rfl) Tryz.func3 (by kernel_rfl)
  (of_decide_eq_true (by kernel_rfl)) (by unfold Func.isWrapper;first|(rw [if_pos (by decide +kernel)];kernel_rfl)|(rw [if_neg (by decide +kernel)];exact ⟨rfl,rfl⟩))
  (fun os started H enc _=>lifted_LawOf os started H enc)
#print axioms law_LawOf
end Go.Proofs.YtdncnhcffbgjhaaGreat
