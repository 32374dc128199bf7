/-
 For every input FnExactPlantKeep returns true: the program's PlantKeep and the reference's agree.
 Conditions: none.
-/
import Derived.Test.YtdncnhcffbgjhaaGreatPlant
import Derived.Test.YtdncnhcffbgjhaaGreatGrXd
import Derived.Test.YtdncnhcffbgjhaaGreatGrO
import Derived.Test.YtdncnhcffbgjhaaGreatLat
import Derived.Test.YtdncnhcffbgjhaaGreatInv2
namespace Go.Proofs.YtdncnhcffbgjhaaGreat
open Go.RowKit Go.ChangeShapes Go.WideShapes Go.ChangeAt Go.Deep
set_option maxRecDepth 100000 in
set_option maxHeartbeats 16000000 in
theorem walkPlantKeep (w:World) (r:Room) (r_a:RoomA) (hin_r:RoomIn r) (hl_r:List.length r.map≤9223372036854775807∧List.length r.noise≤9223372036854775807∧List.length r.limits≤9223372036854775807) (hs_r:RoomSl w r r_a) (ms_A:Option Addr) (ms:List Mode) (ms_c:Nat) (hin_ms:∀ y∈ms,Mode.In y) (hl_ms:List.length ms≤9223372036854775807) (hs_ms:Sl 2 modeC w ms_A ms) (p:List Half) (p_a:SlA) (hin_p:RegionIn p) (hl_p:List.length p≤9223372036854775807) (hs_p:RegionSl w p p_a) :
 Calls Tryz.prog 10 #[roomV r r_a,.slice ms_A ms.length ms_c,.agg #[.slice p_a.A p.length p_a.c]] w fun e w'=>e=.returned (.bool true)∧Below w.heap.size w w':=by
 have hlr:=pkR_le r ms p
 refine calls_v Tryz.func10 rfl (n:=142) Tryz.ntmps10 (by simp) ?_
 intro a0 hz hdf ha
 have s0:a0.tmps[0]?.getD undef=roomV r r_a:=ha 0 _ rfl;have s1:a0.tmps[1]?.getD undef=.slice ms_A ms.length ms_c:=ha 1 _ rfl;have s2:a0.tmps[2]?.getD undef=.agg #[.slice p_a.A p.length p_a.c]:=ha 2 _ rfl;clear ha
 have hB:=Below.refl w.heap.size w
 have hZ:=Nat.le_refl w.heap.size
 refine wp_seq ?_
 refine wp_entry [3,5,6] [.pointer (some ⟨w.heap.size,0,none⟩),.pointer (some ⟨(w.heap.size+1),0,none⟩),.bool false] [some (.cells (roomC r r_a).toArray 27),some (.cells [.slice p_a.A p.length p_a.c].toArray 25),none] [0,1,2] [3,5,6] [0,1,2] (by kernel_rfl) (by rw [hz];decide) (ec ?_ (ec ?_ (ec ?_ .nil))) ?_
 ·intro a w' hF hs N Q hN;simp [go_sem,hF.g rfl s0];rw [hs];exact hN
 ·intro a w' hF hs N Q hN;simp [go_sem,hF.g rfl s2];rw [hs];exact hN
 ·intro a w' hF hs N Q hN;simp [go_sem];exact hN
 intro a1 w2 hF hV hb hO
 replace hz:=hF.size.trans hz;replace hdf:=hF.defers.trans hdf;replace s1:=hF.g rfl s1
 have s3:a1.tmps[3]?.getD undef=.pointer (some ⟨w.heap.size,0,none⟩):=hV 0 (by decide)
 have s5:a1.tmps[5]?.getD undef=.pointer (some ⟨(w.heap.size+1),0,none⟩):=hV 1 (by decide)
 have b3:HasT w2 w.heap.size 27 (roomC r r_a):=hO 0 _ rfl
 have b4:HasT w2 (w.heap.size+1) 25 [.slice p_a.A p.length p_a.c]:=hO 1 _ rfl
 have hG:=b4.lt
 replace hB:=below_tr hB hb;have zw2:=Nat.le_trans hZ hb.size;replace hZ:=Nat.le_refl w2.heap.size;clear hF hV hb hO s0 s2;refine th_n ?_;refine wp_seq ?_
 refine wp_regJ (by kernel_rfl) [7] [some (.int .i64 1048576)] (dlR 1) [7] [0] [] (fun _ _ _=>True) (by kernel_rfl) (by rw [hz];decide) ?_ (en rfl ?_ .nil) ?_
 ·exact fun _ _=>trivial
 ·exact fun Lk ak ww H _ _ hN=>wp_assign rfl rfl (hN _ _ H.k rfl trivial)
 intro L a5 w6 hL hF hK hV hX;replace hz:=hF.Z hz;replace hdf:=hF.E hdf;replace s1:=hF.G s1;replace s3:=hF.G s3;replace s5:=hF.G s5;have s7:=gS a5 7 (hV 0 _ rfl);replace b3:=b3.k0 hK;replace b4:=b4.k0 hK;replace hZ:=Nat.le_trans hZ hK.size;replace hB:=hK.below0 hB;clear hF hK hV hL hX;refine th_n ?_;refine wp_seq ?_
 rcases Bool.eq_false_or_eq_true (decide (1048576-((roomLen r:Nat):Int)<0)) with q7|q7
 ·skip
  have hXb:StaysX [7] (fun L aa ww=>(L 3=false→aa.tmps[7]?.getD undef=.int .i64 1048576)):=by
   intro L aa ww w' kk vv hkk hb hX
   have x0:=hX
   exact (fun h=>(put_ne' (hkk 7 (by simp)) vv).trans (x0 h))
  refine wp_regK hXb (by kernel_rfl) [20,21,22,7] [some (roomV r r_a),some (.int .i64 1048576),some (.int .i64 (-1)),some (.int .i64 (-1))] (dlR 4) [20,21,22,7] [0,1,2,3] [] (by kernel_rfl) (by rw [hz];decide) ?_ (en rfl ?_ (en rfl ?_ (en rfl ?_ (en rfl ?_ .nil)))) ?_
  ·exact fun _ h=>(fun _=>s7)
  ·intro Lk ak ww H _ _ hN
   simp [go_sem,H.f.g rfl s3,(b3.k0 H.k).cell]
   exact (hN _ _ H.k rfl (hXb Lk ak ww _ (some 20) _ (by simp) bR H.x))
  ·intro Lk ak ww H _ _ hN
   have x0:=H.x
   exact wp_move rfl (ev (x0 (H.t 3 rfl))) (hN _ _ H.k rfl (hXb Lk ak ww _ (some 21) _ (by simp) bR H.x))
  ·intro Lk ak ww H _ _ hN
   simp [go_sem,(gS ak 20 (H.d 0 rfl rfl)),(gS ak 21 (H.d 1 rfl rfl))]
   refine (szRoom_c r r_a 1048576 ww hl_r (by omega) (by omega)).mono ?_
   rintro x wx ⟨rfl,hb⟩
   exact (hN _ _ (H.k.call hb) (congrArg (Value.int .i64) (if_pos (dec_t q7))) (hXb Lk ak ww _ (some 22) _ (by simp) hb H.x))
  ·intro Lk ak ww H _ _ hN
   have x0:=H.x
   exact wp_assign rfl (ev (H.d 2 rfl rfl)) (hN _ _ H.k rfl (fun h=>by simp [upd] at h))
  intro L a8 w9 hL hF hK hV hX;have x0:=hX;replace hz:=hF.Z hz;replace hdf:=hF.E hdf;replace s1:=hF.G s1;replace s3:=hF.G s3;replace s5:=hF.G s5;have s7:=gS a8 7 (hV 3 _ rfl);replace b3:=b3.k0 hK;replace b4:=b4.k0 hK;replace hZ:=Nat.le_trans hZ hK.size;replace hB:=hK.below0 hB;clear hF hK hV hL x0 hXb;refine th_n ?_;refine wp_seq ?_;refine wp_seq ?_
  refine wp_regJ (by kernel_rfl) [23,24] [some (.int .i64 (-1)),some (.bool true)] (dlR 2) [23,24] [0,1] [] (fun _ _ _=>True) (by kernel_rfl) (by rw [hz];decide) ?_ (en rfl ?_ (en rfl ?_ .nil)) ?_
  ·exact fun _ _=>trivial
  ·exact fun Lk ak ww H _ _ hN=>wp_move rfl (ev (H.f.g rfl s7)) (hN _ _ H.k rfl trivial)
  ·exact fun Lk ak ww H _ _ hN=>wp_bin rfl (ev (H.d 0 rfl rfl)) rfl rfl rfl (hN _ _ H.k rfl trivial)
  intro L a10 w11 hL hF hK hV hX;replace hz:=hF.Z hz;replace hdf:=hF.E hdf;replace s1:=hF.G s1;replace s3:=hF.G s3;replace s5:=hF.G s5;replace s7:=hF.G s7;have s24:=gS a10 24 (hV 1 _ rfl);replace b3:=b3.k0 hK;replace b4:=b4.k0 hK;replace hZ:=Nat.le_trans hZ hK.size;replace hB:=hK.below0 hB;clear hF hK hV hL hX;refine th_n ?_
  refine wp_cond_true (ev s24) ?_
  refine wp_seq ?_
  refine wp_regJ (by kernel_rfl) [6] [some (.bool true)] (dlR 1) [6] [0] [] (fun _ _ _=>True) (by kernel_rfl) (by rw [hz];decide) ?_ (en rfl ?_ .nil) ?_
  ·exact fun _ _=>trivial
  ·exact fun Lk ak ww H _ _ hN=>wp_assign rfl rfl (hN _ _ H.k rfl trivial)
  intro L a12 w13 hL hF hK hV hX;replace hz:=hF.Z hz;replace hdf:=hF.E hdf;have s6:=gS a12 6 (hV 0 _ rfl);replace hZ:=Nat.le_trans hZ hK.size;replace hB:=hK.below0 hB;clear hF hK hV hL hX s1 s3 s5 s7 s24 b3 b4;refine th_n ?_
  refine wp_ret ?_
  refine th_r ?_
  refine bodyPost_ret (v:=.bool true) (by simp [results,Tryz.results10,go_sem,s6]) hdf ?_
  exact ⟨rfl,hB⟩
 ·skip
  have hXb:StaysX [7] (fun L aa ww=>(L 3=false→aa.tmps[7]?.getD undef=.int .i64 1048576)):=by
   intro L aa ww w' kk vv hkk hb hX
   have x0:=hX
   exact (fun h=>(put_ne' (hkk 7 (by simp)) vv).trans (x0 h))
  refine wp_regK hXb (by kernel_rfl) [20,21,22,7] [some (roomV r r_a),some (.int .i64 1048576),some (.int .i64 (1048576-((roomLen r:Nat):Int))),some (.int .i64 (1048576-((roomLen r:Nat):Int)))] (dlR 4) [20,21,22,7] [0,1,2,3] [] (by kernel_rfl) (by rw [hz];decide) ?_ (en rfl ?_ (en rfl ?_ (en rfl ?_ (en rfl ?_ .nil)))) ?_
  ·exact fun _ h=>(fun _=>s7)
  ·intro Lk ak ww H _ _ hN
   simp [go_sem,H.f.g rfl s3,(b3.k0 H.k).cell]
   exact (hN _ _ H.k rfl (hXb Lk ak ww _ (some 20) _ (by simp) bR H.x))
  ·intro Lk ak ww H _ _ hN
   have x0:=H.x
   exact wp_move rfl (ev (x0 (H.t 3 rfl))) (hN _ _ H.k rfl (hXb Lk ak ww _ (some 21) _ (by simp) bR H.x))
  ·intro Lk ak ww H _ _ hN
   simp [go_sem,(gS ak 20 (H.d 0 rfl rfl)),(gS ak 21 (H.d 1 rfl rfl))]
   refine (szRoom_c r r_a 1048576 ww hl_r (by omega) (by omega)).mono ?_
   rintro x wx ⟨rfl,hb⟩
   exact (hN _ _ (H.k.call hb) (congrArg (Value.int .i64) (if_neg (dec_f q7))) (hXb Lk ak ww _ (some 22) _ (by simp) hb H.x))
  ·intro Lk ak ww H _ _ hN
   have x0:=H.x
   exact wp_assign rfl (ev (H.d 2 rfl rfl)) (hN _ _ H.k rfl (fun h=>by simp [upd] at h))
  intro L a14 w15 hL hF hK hV hX;have x0:=hX;replace hz:=hF.Z hz;replace hdf:=hF.E hdf;replace s1:=hF.G s1;replace s3:=hF.G s3;replace s5:=hF.G s5;have s7:=gS a14 7 (hV 3 _ rfl);replace b3:=b3.k0 hK;replace b4:=b4.k0 hK;replace hZ:=Nat.le_trans hZ hK.size;replace hB:=hK.below0 hB;clear hF hK hV hL x0 hXb;refine th_n ?_;refine wp_seq ?_;refine wp_seq ?_
  refine wp_regJ (by kernel_rfl) [23,24] [some (.int .i64 (1048576-((roomLen r:Nat):Int))),some (.bool (decide (1048576-((roomLen r:Nat):Int)<0)))] (dlR 2) [23,24] [0,1] [] (fun _ _ _=>True) (by kernel_rfl) (by rw [hz];decide) ?_ (en rfl ?_ (en rfl ?_ .nil)) ?_
  ·exact fun _ _=>trivial
  ·exact fun Lk ak ww H _ _ hN=>wp_move rfl (ev (H.f.g rfl s7)) (hN _ _ H.k rfl trivial)
  ·exact fun Lk ak ww H _ _ hN=>wp_bin rfl (ev (H.d 0 rfl rfl)) rfl rfl rfl (hN _ _ H.k rfl trivial)
  intro L a16 w17 hL hF hK hV hX;replace hz:=hF.Z hz;replace hdf:=hF.E hdf;replace s1:=hF.G s1;replace s3:=hF.G s3;replace s5:=hF.G s5;replace s7:=hF.G s7;have s24:=gS a16 24 (hV 1 _ rfl);replace b3:=b3.k0 hK;replace b4:=b4.k0 hK;replace hZ:=Nat.le_trans hZ hK.size;replace hB:=hK.below0 hB;clear hF hK hV hL hX;refine th_n ?_
  refine wp_cond_false (ev (vb s24 q7)) ?_
  refine wp_skip ?_;refine th_n ?_;refine wp_seq ?_
  rcases Bool.eq_false_or_eq_true (decide (1048576-((roomLen r:Nat):Int)-(ms.length:Int)<0)) with q18|q18
  ·skip
   have hXb:StaysX [7] (fun L aa ww=>(L 3=false→aa.tmps[7]?.getD undef=.int .i64 (1048576-((roomLen r:Nat):Int)))):=by
    intro L aa ww w' kk vv hkk hb hX
    have x0:=hX
    exact (fun h=>(put_ne' (hkk 7 (by simp)) vv).trans (x0 h))
   refine wp_regK hXb (by kernel_rfl) [25,26,27,7] [some (.slice ms_A ms.length ms_c),some (.int .i64 (1048576-((roomLen r:Nat):Int))),some (.int .i64 (-1)),some (.int .i64 (-1))] (dlR 4) [25,26,27,7] [0,1,2,3] [] (by kernel_rfl) (by rw [hz];decide) ?_ (en rfl ?_ (en rfl ?_ (en rfl ?_ (en rfl ?_ .nil)))) ?_
   ·exact fun _ h=>(fun _=>s7)
   ·exact fun Lk ak ww H _ _ hN=>wp_move rfl (ev (H.f.g rfl s1)) (hN _ _ H.k rfl (hXb Lk ak ww _ (some 25) _ (by simp) bR H.x))
   ·intro Lk ak ww H _ _ hN
    have x0:=H.x
    exact wp_move rfl (ev (x0 (H.t 3 rfl))) (hN _ _ H.k rfl (hXb Lk ak ww _ (some 26) _ (by simp) bR H.x))
   ·intro Lk ak ww H _ _ hN
    simp [go_sem,(gS ak 25 (H.d 0 rfl rfl)),(gS ak 26 (H.d 1 rfl rfl))]
    refine (szModeS_c ms_A ms.length ms_c (1048576-((roomLen r:Nat):Int)) ww hl_ms (by have:=dec_f q7;omega) (by have:=dec_f q7;omega)).mono ?_
    rintro x wx ⟨rfl,rfl⟩
    exact (hN _ _ H.k (congrArg (Value.int .i64) (if_pos (dec_t q18))) (hXb Lk ak ww _ (some 27) _ (by simp) bR H.x))
   ·intro Lk ak ww H _ _ hN
    have x0:=H.x
    exact wp_assign rfl (ev (H.d 2 rfl rfl)) (hN _ _ H.k rfl (fun h=>by simp [upd] at h))
   intro L a19 w20 hL hF hK hV hX;have x0:=hX;replace hz:=hF.Z hz;replace hdf:=hF.E hdf;replace s1:=hF.G s1;replace s3:=hF.G s3;replace s5:=hF.G s5;have s7:=gS a19 7 (hV 3 _ rfl);replace b3:=b3.k0 hK;replace b4:=b4.k0 hK;replace hZ:=Nat.le_trans hZ hK.size;replace hB:=hK.below0 hB;clear hF hK hV hL x0 hXb s24;refine th_n ?_;refine wp_seq ?_;refine wp_seq ?_
   refine wp_regJ (by kernel_rfl) [28,29] [some (.int .i64 (-1)),some (.bool true)] (dlR 2) [28,29] [0,1] [] (fun _ _ _=>True) (by kernel_rfl) (by rw [hz];decide) ?_ (en rfl ?_ (en rfl ?_ .nil)) ?_
   ·exact fun _ _=>trivial
   ·exact fun Lk ak ww H _ _ hN=>wp_move rfl (ev (H.f.g rfl s7)) (hN _ _ H.k rfl trivial)
   ·exact fun Lk ak ww H _ _ hN=>wp_bin rfl (ev (H.d 0 rfl rfl)) rfl rfl rfl (hN _ _ H.k rfl trivial)
   intro L a21 w22 hL hF hK hV hX;replace hz:=hF.Z hz;replace hdf:=hF.E hdf;replace s1:=hF.G s1;replace s3:=hF.G s3;replace s5:=hF.G s5;replace s7:=hF.G s7;have s29:=gS a21 29 (hV 1 _ rfl);replace b3:=b3.k0 hK;replace b4:=b4.k0 hK;replace hZ:=Nat.le_trans hZ hK.size;replace hB:=hK.below0 hB;clear hF hK hV hL hX;refine th_n ?_
   refine wp_cond_true (ev s29) ?_
   refine wp_seq ?_
   refine wp_regJ (by kernel_rfl) [6] [some (.bool true)] (dlR 1) [6] [0] [] (fun _ _ _=>True) (by kernel_rfl) (by rw [hz];decide) ?_ (en rfl ?_ .nil) ?_
   ·exact fun _ _=>trivial
   ·exact fun Lk ak ww H _ _ hN=>wp_assign rfl rfl (hN _ _ H.k rfl trivial)
   intro L a23 w24 hL hF hK hV hX;replace hz:=hF.Z hz;replace hdf:=hF.E hdf;have s6:=gS a23 6 (hV 0 _ rfl);replace hZ:=Nat.le_trans hZ hK.size;replace hB:=hK.below0 hB;clear hF hK hV hL hX s1 s3 s5 s7 s29 b3 b4;refine th_n ?_
   refine wp_ret ?_
   refine th_r ?_
   refine bodyPost_ret (v:=.bool true) (by simp [results,Tryz.results10,go_sem,s6]) hdf ?_
   exact ⟨rfl,hB⟩
  ·skip
   have hXb:StaysX [7] (fun L aa ww=>(L 3=false→aa.tmps[7]?.getD undef=.int .i64 (1048576-((roomLen r:Nat):Int)))):=by
    intro L aa ww w' kk vv hkk hb hX
    have x0:=hX
    exact (fun h=>(put_ne' (hkk 7 (by simp)) vv).trans (x0 h))
   refine wp_regK hXb (by kernel_rfl) [25,26,27,7] [some (.slice ms_A ms.length ms_c),some (.int .i64 (1048576-((roomLen r:Nat):Int))),some (.int .i64 (1048576-((roomLen r:Nat):Int)-(ms.length:Int))),some (.int .i64 (1048576-((roomLen r:Nat):Int)-(ms.length:Int)))] (dlR 4) [25,26,27,7] [0,1,2,3] [] (by kernel_rfl) (by rw [hz];decide) ?_ (en rfl ?_ (en rfl ?_ (en rfl ?_ (en rfl ?_ .nil)))) ?_
   ·exact fun _ h=>(fun _=>s7)
   ·exact fun Lk ak ww H _ _ hN=>wp_move rfl (ev (H.f.g rfl s1)) (hN _ _ H.k rfl (hXb Lk ak ww _ (some 25) _ (by simp) bR H.x))
   ·intro Lk ak ww H _ _ hN
    have x0:=H.x
    exact wp_move rfl (ev (x0 (H.t 3 rfl))) (hN _ _ H.k rfl (hXb Lk ak ww _ (some 26) _ (by simp) bR H.x))
   ·intro Lk ak ww H _ _ hN
    simp [go_sem,(gS ak 25 (H.d 0 rfl rfl)),(gS ak 26 (H.d 1 rfl rfl))]
    refine (szModeS_c ms_A ms.length ms_c (1048576-((roomLen r:Nat):Int)) ww hl_ms (by have:=dec_f q7;omega) (by have:=dec_f q7;omega)).mono ?_
    rintro x wx ⟨rfl,rfl⟩
    exact (hN _ _ H.k (congrArg (Value.int .i64) (if_neg (dec_f q18))) (hXb Lk ak ww _ (some 27) _ (by simp) bR H.x))
   ·intro Lk ak ww H _ _ hN
    have x0:=H.x
    exact wp_assign rfl (ev (H.d 2 rfl rfl)) (hN _ _ H.k rfl (fun h=>by simp [upd] at h))
   intro L a25 w26 hL hF hK hV hX;have x0:=hX;replace hz:=hF.Z hz;replace hdf:=hF.E hdf;replace s1:=hF.G s1;replace s3:=hF.G s3;replace s5:=hF.G s5;have s7:=gS a25 7 (hV 3 _ rfl);replace b3:=b3.k0 hK;replace b4:=b4.k0 hK;replace hZ:=Nat.le_trans hZ hK.size;replace hB:=hK.below0 hB;clear hF hK hV hL x0 hXb s24;refine th_n ?_;refine wp_seq ?_;refine wp_seq ?_
   refine wp_regJ (by kernel_rfl) [28,29] [some (.int .i64 (1048576-((roomLen r:Nat):Int)-(ms.length:Int))),some (.bool (decide (1048576-((roomLen r:Nat):Int)-(ms.length:Int)<0)))] (dlR 2) [28,29] [0,1] [] (fun _ _ _=>True) (by kernel_rfl) (by rw [hz];decide) ?_ (en rfl ?_ (en rfl ?_ .nil)) ?_
   ·exact fun _ _=>trivial
   ·exact fun Lk ak ww H _ _ hN=>wp_move rfl (ev (H.f.g rfl s7)) (hN _ _ H.k rfl trivial)
   ·exact fun Lk ak ww H _ _ hN=>wp_bin rfl (ev (H.d 0 rfl rfl)) rfl rfl rfl (hN _ _ H.k rfl trivial)
   intro L a27 w28 hL hF hK hV hX;replace hz:=hF.Z hz;replace hdf:=hF.E hdf;replace s1:=hF.G s1;replace s3:=hF.G s3;replace s5:=hF.G s5;replace s7:=hF.G s7;have s29:=gS a27 29 (hV 1 _ rfl);replace b3:=b3.k0 hK;replace b4:=b4.k0 hK;replace hZ:=Nat.le_trans hZ hK.size;replace hB:=hK.below0 hB;clear hF hK hV hL hX;refine th_n ?_
   refine wp_cond_false (ev (vb s29 q18)) ?_
   refine wp_skip ?_;refine th_n ?_;refine wp_seq ?_
   rcases Bool.eq_false_or_eq_true (decide (1048576-((roomLen r:Nat):Int)-(ms.length:Int)-((regionLen p:Nat):Int)<0)) with q29|q29
   ·skip
    have hXb:StaysX [7] (fun L aa ww=>(L 3=false→aa.tmps[7]?.getD undef=.int .i64 (1048576-((roomLen r:Nat):Int)-(ms.length:Int)))):=by
     intro L aa ww w' kk vv hkk hb hX
     have x0:=hX
     exact (fun h=>(put_ne' (hkk 7 (by simp)) vv).trans (x0 h))
    refine wp_regK hXb (by kernel_rfl) [30,31,32,7] [some (.agg #[.slice p_a.A p.length p_a.c]),some (.int .i64 (1048576-((roomLen r:Nat):Int)-(ms.length:Int))),some (.int .i64 (-1)),some (.int .i64 (-1))] (dlR 4) [30,31,32,7] [0,1,2,3] [] (by kernel_rfl) (by rw [hz];decide) ?_ (en rfl ?_ (en rfl ?_ (en rfl ?_ (en rfl ?_ .nil)))) ?_
    ·exact fun _ h=>(fun _=>s7)
    ·intro Lk ak ww H _ _ hN
     simp [go_sem,H.f.g rfl s5,(b4.k0 H.k).cell]
     exact (hN _ _ H.k rfl (hXb Lk ak ww _ (some 30) _ (by simp) bR H.x))
    ·intro Lk ak ww H _ _ hN
     have x0:=H.x
     exact wp_move rfl (ev (x0 (H.t 3 rfl))) (hN _ _ H.k rfl (hXb Lk ak ww _ (some 31) _ (by simp) bR H.x))
    ·intro Lk ak ww H _ _ hN
     simp [go_sem,(gS ak 30 (H.d 0 rfl rfl)),(gS ak 31 (H.d 1 rfl rfl))]
     refine (szRegion_c p p_a (1048576-((roomLen r:Nat):Int)-(ms.length:Int)) ww hl_p (by have:=dec_f q7;have:=dec_f q18;omega) (by have:=dec_f q7;have:=dec_f q18;omega)).mono ?_
     rintro x wx ⟨rfl,hb⟩
     exact (hN _ _ (H.k.call hb) (congrArg (Value.int .i64) (if_pos (dec_t q29))) (hXb Lk ak ww _ (some 32) _ (by simp) hb H.x))
    ·intro Lk ak ww H _ _ hN
     have x0:=H.x
     exact wp_assign rfl (ev (H.d 2 rfl rfl)) (hN _ _ H.k rfl (fun h=>by simp [upd] at h))
    intro L a30 w31 hL hF hK hV hX;have x0:=hX;replace hz:=hF.Z hz;replace hdf:=hF.E hdf;replace s1:=hF.G s1;replace s3:=hF.G s3;replace s5:=hF.G s5;have s7:=gS a30 7 (hV 3 _ rfl);replace b3:=b3.k0 hK;replace b4:=b4.k0 hK;replace hZ:=Nat.le_trans hZ hK.size;replace hB:=hK.below0 hB;clear hF hK hV hL x0 hXb s29;refine th_n ?_;refine wp_seq ?_;refine wp_seq ?_
    refine wp_regJ (by kernel_rfl) [33,34] [some (.int .i64 (-1)),some (.bool true)] (dlR 2) [33,34] [0,1] [] (fun _ _ _=>True) (by kernel_rfl) (by rw [hz];decide) ?_ (en rfl ?_ (en rfl ?_ .nil)) ?_
    ·exact fun _ _=>trivial
    ·exact fun Lk ak ww H _ _ hN=>wp_move rfl (ev (H.f.g rfl s7)) (hN _ _ H.k rfl trivial)
    ·exact fun Lk ak ww H _ _ hN=>wp_bin rfl (ev (H.d 0 rfl rfl)) rfl rfl rfl (hN _ _ H.k rfl trivial)
    intro L a32 w33 hL hF hK hV hX;replace hz:=hF.Z hz;replace hdf:=hF.E hdf;replace s1:=hF.G s1;replace s3:=hF.G s3;replace s5:=hF.G s5;have s34:=gS a32 34 (hV 1 _ rfl);replace b3:=b3.k0 hK;replace b4:=b4.k0 hK;replace hZ:=Nat.le_trans hZ hK.size;replace hB:=hK.below0 hB;clear hF hK hV hL hX s7;refine th_n ?_
    refine wp_cond_true (ev s34) ?_
    refine wp_seq ?_
    refine wp_regJ (by kernel_rfl) [6] [some (.bool true)] (dlR 1) [6] [0] [] (fun _ _ _=>True) (by kernel_rfl) (by rw [hz];decide) ?_ (en rfl ?_ .nil) ?_
    ·exact fun _ _=>trivial
    ·exact fun Lk ak ww H _ _ hN=>wp_assign rfl rfl (hN _ _ H.k rfl trivial)
    intro L a34 w35 hL hF hK hV hX;replace hz:=hF.Z hz;replace hdf:=hF.E hdf;have s6:=gS a34 6 (hV 0 _ rfl);replace hZ:=Nat.le_trans hZ hK.size;replace hB:=hK.below0 hB;clear hF hK hV hL hX s1 s3 s5 s34 b3 b4;refine th_n ?_
    refine wp_ret ?_
    refine th_r ?_
    refine bodyPost_ret (v:=.bool true) (by simp [results,Tryz.results10,go_sem,s6]) hdf ?_
    exact ⟨rfl,hB⟩
   ·skip
    have hXb:StaysX [7] (fun L aa ww=>(L 3=false→aa.tmps[7]?.getD undef=.int .i64 (1048576-((roomLen r:Nat):Int)-(ms.length:Int)))):=by
     intro L aa ww w' kk vv hkk hb hX
     have x0:=hX
     exact (fun h=>(put_ne' (hkk 7 (by simp)) vv).trans (x0 h))
    refine wp_regK hXb (by kernel_rfl) [30,31,32,7] [some (.agg #[.slice p_a.A p.length p_a.c]),some (.int .i64 (1048576-((roomLen r:Nat):Int)-(ms.length:Int))),some (.int .i64 (1048576-((roomLen r:Nat):Int)-(ms.length:Int)-((regionLen p:Nat):Int))),some (.int .i64 (1048576-((roomLen r:Nat):Int)-(ms.length:Int)-((regionLen p:Nat):Int)))] (dlR 4) [30,31,32,7] [0,1,2,3] [] (by kernel_rfl) (by rw [hz];decide) ?_ (en rfl ?_ (en rfl ?_ (en rfl ?_ (en rfl ?_ .nil)))) ?_
    ·exact fun _ h=>(fun _=>s7)
    ·intro Lk ak ww H _ _ hN
     simp [go_sem,H.f.g rfl s5,(b4.k0 H.k).cell]
     exact (hN _ _ H.k rfl (hXb Lk ak ww _ (some 30) _ (by simp) bR H.x))
    ·intro Lk ak ww H _ _ hN
     have x0:=H.x
     exact wp_move rfl (ev (x0 (H.t 3 rfl))) (hN _ _ H.k rfl (hXb Lk ak ww _ (some 31) _ (by simp) bR H.x))
    ·intro Lk ak ww H _ _ hN
     simp [go_sem,(gS ak 30 (H.d 0 rfl rfl)),(gS ak 31 (H.d 1 rfl rfl))]
     refine (szRegion_c p p_a (1048576-((roomLen r:Nat):Int)-(ms.length:Int)) ww hl_p (by have:=dec_f q7;have:=dec_f q18;omega) (by have:=dec_f q7;have:=dec_f q18;omega)).mono ?_
     rintro x wx ⟨rfl,hb⟩
     exact (hN _ _ (H.k.call hb) (congrArg (Value.int .i64) (if_neg (dec_f q29))) (hXb Lk ak ww _ (some 32) _ (by simp) hb H.x))
    ·intro Lk ak ww H _ _ hN
     have x0:=H.x
     exact wp_assign rfl (ev (H.d 2 rfl rfl)) (hN _ _ H.k rfl (fun h=>by simp [upd] at h))
    intro L a36 w37 hL hF hK hV hX;have x0:=hX;replace hz:=hF.Z hz;replace hdf:=hF.E hdf;replace s1:=hF.G s1;replace s3:=hF.G s3;replace s5:=hF.G s5;have s7:=gS a36 7 (hV 3 _ rfl);replace b3:=b3.k0 hK;replace b4:=b4.k0 hK;replace hZ:=Nat.le_trans hZ hK.size;replace hB:=hK.below0 hB;clear hF hK hV hL x0 hXb s29;refine th_n ?_;refine wp_seq ?_;refine wp_seq ?_
    refine wp_regJ (by kernel_rfl) [33,34] [some (.int .i64 (1048576-((roomLen r:Nat):Int)-(ms.length:Int)-((regionLen p:Nat):Int))),some (.bool (decide (1048576-((roomLen r:Nat):Int)-(ms.length:Int)-((regionLen p:Nat):Int)<0)))] (dlR 2) [33,34] [0,1] [] (fun _ _ _=>True) (by kernel_rfl) (by rw [hz];decide) ?_ (en rfl ?_ (en rfl ?_ .nil)) ?_
    ·exact fun _ _=>trivial
    ·exact fun Lk ak ww H _ _ hN=>wp_move rfl (ev (H.f.g rfl s7)) (hN _ _ H.k rfl trivial)
    ·exact fun Lk ak ww H _ _ hN=>wp_bin rfl (ev (H.d 0 rfl rfl)) rfl rfl rfl (hN _ _ H.k rfl trivial)
    intro L a38 w39 hL hF hK hV hX;replace hz:=hF.Z hz;replace hdf:=hF.E hdf;replace s1:=hF.G s1;replace s3:=hF.G s3;replace s5:=hF.G s5;have s34:=gS a38 34 (hV 1 _ rfl);replace b3:=b3.k0 hK;replace b4:=b4.k0 hK;replace hZ:=Nat.le_trans hZ hK.size;replace hB:=hK.below0 hB;clear hF hK hV hL hX s7;refine th_n ?_
    refine wp_cond_false (ev (vb s34 q29)) ?_
    refine wp_skip ?_;refine th_n ?_;refine wp_seq ?_
    have hXb:StaysX [8,35,37,39,41,42,43] (fun L aa ww=>(L 1=true→(fun ww v=>∃ m1,v=roomV r m1∧RoomNew ww w39.heap.size r m1) ww (aa.tmps[37]?.getD undef))∧(L 3=true→(fun ww v=>∃ A2 c2,v=.slice A2 ms.length c2∧New 153 2 modeC ww w39.heap.size (.slice A2 (ms).length c2) ms) ww (aa.tmps[39]?.getD undef))∧(L 5=true→(fun ww v=>∃ m3,v=.agg #[.slice m3.A p.length m3.c]∧RegionNew ww w39.heap.size p m3) ww (aa.tmps[41]?.getD undef))∧(L 6=true→(fun ww v=>∃ A4 c4,v=.tuple #[.agg #[.slice A4 ((pkR r ms p).length) c4],.bool (pkOk r ms p)]∧New 111 3 halfC ww w39.heap.size (.slice A4 (pkR r ms p).length c4) (pkR r ms p)) ww (aa.tmps[42]?.getD undef))∧(L 7=true→(fun ww v=>∃ A4 c4,v=.tuple #[.agg #[.slice A4 ((pkR r ms p).length) c4],.bool (pkOk r ms p)]∧New 111 3 halfC ww w39.heap.size (.slice A4 (pkR r ms p).length c4) (pkR r ms p)) ww (aa.tmps[35]?.getD undef))∧(L 8=true→(fun ww v=>∃ A4 c4,v=.agg #[.slice A4 ((pkR r ms p).length) c4]∧New 111 3 halfC ww w39.heap.size (.slice A4 (pkR r ms p).length c4) (pkR r ms p)) ww (aa.tmps[43]?.getD undef))∧(L 10=true→BoxX w39 aa ww 8 37 [.slice none 0 0] (L 11) (fun ww vs=>∃ A4 c4,vs=[.slice A4 ((pkR r ms p).length) c4]∧New 111 3 halfC ww w39.heap.size (.slice A4 (pkR r ms p).length c4) (pkR r ms p)))):=by
     intro L aa ww w' kk vv hkk hb hX
     obtain ⟨x0,x1,x2,x3,x4,x5,x6⟩:=hX
     exact ⟨(fun h=>by rw [put_ne' (hkk 37 (by simp))];obtain ⟨m1',e,f1'⟩:=x0 h;exact ⟨m1',e,f1'.below hb leR⟩),(fun h=>by rw [put_ne' (hkk 39 (by simp))];obtain ⟨A2',c2',e,f2'⟩:=x1 h;exact ⟨A2',c2',e,f2'.below hb leR⟩),(fun h=>by rw [put_ne' (hkk 41 (by simp))];obtain ⟨m3',e,f3'⟩:=x2 h;exact ⟨m3',e,f3'.below hb leR⟩),(fun h=>by rw [put_ne' (hkk 42 (by simp))];obtain ⟨A4',c4',e,f4'⟩:=x3 h;exact ⟨A4',c4',e,f4'.below hb leR⟩),(fun h=>by rw [put_ne' (hkk 35 (by simp))];obtain ⟨A4',c4',e,f4'⟩:=x4 h;exact ⟨A4',c4',e,f4'.below hb leR⟩),(fun h=>by rw [put_ne' (hkk 43 (by simp))];obtain ⟨A4',c4',e,f4'⟩:=x5 h;exact ⟨A4',c4',e,f4'.below hb leR⟩),(fun h=>((x6 h).bel hb (fun _ ⟨A4',c4',e,f4'⟩=>⟨A4',c4',e,f4'.below hb leR⟩)).put (hkk 8 (by simp)) _)⟩
    refine wp_regK hXb (by kernel_rfl) [36,37,38,39,40,41,42,35,43,44,8,0,9] [some (roomV r r_a),none,some (.slice ms_A ms.length ms_c),none,some (.agg #[.slice p_a.A p.length p_a.c]),none,none,none,none,some (.bool (pkOk r ms p)),none,none,some (.bool (pkOk r ms p))] ([[],[0],[],[0,1,2],[],[0,1,2,3,4],[0,1,2,3,4,5],[0,1,2,3,4,5,6],[0,1,2,3,4,5,6,7],[0,1,2,3,4,5,6,7],[],[0,1,2,3,4,5,6,7,8,10],[0,1,2,3,4,5,6,7,8,9,10,11]]) [36,37,38,39,40,41,42,35,43,44,8,9] [0,1,2,3,4,5,6,7,8,9,10,11,12] [] (by kernel_rfl) (by rw [hz];decide) ?_ (en rfl ?_ (en rfl ?_ (en rfl ?_ (en rfl ?_ (en rfl ?_ (en rfl ?_ (en rfl ?_ (en rfl ?_ (en rfl ?_ (en rfl ?_ (en rfl ?_ (en rfl ?_ (en rfl ?_ .nil))))))))))))) ?_
    ·exact fun _ h=>⟨(fun h=>by cases h),(fun h=>by cases h),(fun h=>by cases h),(fun h=>by cases h),(fun h=>by cases h),(fun h=>by cases h),(fun h=>by cases h)⟩
    ·intro Lk ak ww H _ _ hN
     simp [go_sem,H.f.g rfl s3,(b3.k0 H.k).cell]
     exact (hN _ _ H.k rfl (hXb.q rfl H.x))
    ·intro Lk ak ww H _ _ hN
     obtain ⟨x0,x1,x2,x3,x4,x5,x6⟩:=H.x
     simp [go_sem,(gS ak 36 (H.d 0 rfl rfl))]
     have hBi:=H.k.below0 hB
     refine (toRoom_c r r_a ww (by have:=dec_f q7;have:=dec_f q18;have:=dec_f q29;(try unfold regionLen at *);omega) (hs_r.below hBi)).mono ?_
     rintro x wx ⟨m1,rfl,f0,hb⟩
     have f1:=f0.mono H.k.size
     exact (hN _ _ (H.k.call hb) trivial ⟨(fun _=>by rw [put_get_self (H.f.lt (by rw [hz];decide))];exact ⟨m1,rfl,f1⟩),(fun h=>by rw [put_ne' (by decide)];obtain ⟨A2',c2',e,f2'⟩:=x1 h;exact ⟨A2',c2',e,f2'.below hb leR⟩),(fun h=>by rw [put_ne' (by decide)];obtain ⟨m3',e,f3'⟩:=x2 h;exact ⟨m3',e,f3'.below hb leR⟩),(fun h=>by rw [put_ne' (by decide)];obtain ⟨A4',c4',e,f4'⟩:=x3 h;exact ⟨A4',c4',e,f4'.below hb leR⟩),(fun h=>by rw [put_ne' (by decide)];obtain ⟨A4',c4',e,f4'⟩:=x4 h;exact ⟨A4',c4',e,f4'.below hb leR⟩),(fun h=>by rw [put_ne' (by decide)];obtain ⟨A4',c4',e,f4'⟩:=x5 h;exact ⟨A4',c4',e,f4'.below hb leR⟩),(fun h=>((x6 h).bel hb (fun _ ⟨A4',c4',e,f4'⟩=>⟨A4',c4',e,f4'.below hb leR⟩)).put (by decide) _)⟩)
    ·exact fun Lk ak ww H _ _ hN=>wp_move rfl (ev (H.f.g rfl s1)) (hN _ _ H.k rfl (hXb.q rfl H.x))
    ·intro Lk ak ww H _ _ hN
     obtain ⟨x0,x1,x2,x3,x4,x5,x6⟩:=H.x
     simp [go_sem,(gS ak 38 (H.d 2 rfl rfl))]
     have hBi:=H.k.below0 hB
     refine (toModeS_c ms_A ms ms_c ww (by have:=dec_f q7;have:=dec_f q18;have:=dec_f q29;(try unfold regionLen at *);omega) (hs_ms.below hBi)).mono ?_
     rintro x wx ⟨_,rfl,⟨A2,c2,rfl,f0⟩,hb⟩
     have f2:=New.mono (show New 153 2 modeC wx ww.heap.size (.slice A2 (ms).length c2) ms from ⟨_,_,rfl,f0⟩) H.k.size
     exact (hN _ _ (H.k.call hb) trivial ⟨(fun h=>by rw [put_ne' (by decide)];obtain ⟨m1',e,f1'⟩:=x0 h;exact ⟨m1',e,f1'.below hb leR⟩),(fun _=>by rw [put_get_self (H.f.lt (by rw [hz];decide))];exact ⟨A2,c2,rfl,f2⟩),(fun h=>by rw [put_ne' (by decide)];obtain ⟨m3',e,f3'⟩:=x2 h;exact ⟨m3',e,f3'.below hb leR⟩),(fun h=>by rw [put_ne' (by decide)];obtain ⟨A4',c4',e,f4'⟩:=x3 h;exact ⟨A4',c4',e,f4'.below hb leR⟩),(fun h=>by rw [put_ne' (by decide)];obtain ⟨A4',c4',e,f4'⟩:=x4 h;exact ⟨A4',c4',e,f4'.below hb leR⟩),(fun h=>by rw [put_ne' (by decide)];obtain ⟨A4',c4',e,f4'⟩:=x5 h;exact ⟨A4',c4',e,f4'.below hb leR⟩),(fun h=>((x6 h).bel hb (fun _ ⟨A4',c4',e,f4'⟩=>⟨A4',c4',e,f4'.below hb leR⟩)).put (by decide) _)⟩)
    ·intro Lk ak ww H _ _ hN
     simp [go_sem,H.f.g rfl s5,(b4.k0 H.k).cell]
     exact (hN _ _ H.k rfl (hXb.q rfl H.x))
    ·intro Lk ak ww H _ _ hN
     obtain ⟨x0,x1,x2,x3,x4,x5,x6⟩:=H.x
     simp [go_sem,(gS ak 40 (H.d 4 rfl rfl))]
     have hBi:=H.k.below0 hB
     refine (toRegion_c p p_a ww (by have:=dec_f q7;have:=dec_f q18;have:=dec_f q29;(try unfold regionLen at *);omega) ⟨(hs_p.halves.below hBi)⟩).mono ?_
     rintro x wx ⟨m3,rfl,f0,hb⟩
     have f3:=f0.mono H.k.size
     exact (hN _ _ (H.k.call hb) trivial ⟨(fun h=>by rw [put_ne' (by decide)];obtain ⟨m1',e,f1'⟩:=x0 h;exact ⟨m1',e,f1'.below hb leR⟩),(fun h=>by rw [put_ne' (by decide)];obtain ⟨A2',c2',e,f2'⟩:=x1 h;exact ⟨A2',c2',e,f2'.below hb leR⟩),(fun _=>by rw [put_get_self (H.f.lt (by rw [hz];decide))];exact ⟨m3,rfl,f3⟩),(fun h=>by rw [put_ne' (by decide)];obtain ⟨A4',c4',e,f4'⟩:=x3 h;exact ⟨A4',c4',e,f4'.below hb leR⟩),(fun h=>by rw [put_ne' (by decide)];obtain ⟨A4',c4',e,f4'⟩:=x4 h;exact ⟨A4',c4',e,f4'.below hb leR⟩),(fun h=>by rw [put_ne' (by decide)];obtain ⟨A4',c4',e,f4'⟩:=x5 h;exact ⟨A4',c4',e,f4'.below hb leR⟩),(fun h=>((x6 h).bel hb (fun _ ⟨A4',c4',e,f4'⟩=>⟨A4',c4',e,f4'.below hb leR⟩)).put (by decide) _)⟩)
    ·intro Lk ak ww H _ _ hN
     obtain ⟨x0,x1,x2,x3,x4,x5,x6⟩:=H.x
     obtain ⟨m1,ee1,f1⟩:=x0 (H.r 1 rfl)
     obtain ⟨A2,c2,ee3,f2⟩:=x1 (H.r 3 rfl)
     obtain ⟨m3,ee5,f3⟩:=x2 (H.r 5 rfl)
     simp [go_sem,ee1,ee3,ee5]
     refine (sPlant_c r ms p m1 ⟨A2,c2⟩ m3 ww (by have:=dec_f q7;have:=dec_f q18;have:=dec_f q29;(try unfold regionLen at *);omega) hin_r hin_ms f1.sl f1.nil (by have:=dec_f q7;have:=dec_f q18;have:=dec_f q29;(try unfold regionLen at *);omega) hin_p.halves (by have:=dec_f q7;have:=dec_f q18;have:=dec_f q29;(try unfold regionLen at *);omega) (f2.out modeC_len) (f3.halves.out halfC_len) f3.halves.nilcap).mono ?_
     rintro x wx ⟨_,rfl,⟨A4,c4,rfl,f0⟩,hb⟩
     have f4:=New.mono (show New 111 3 halfC wx ww.heap.size (.slice A4 (pkR r ms p).length c4) (pkR r ms p) from ⟨_,_,rfl,f0⟩) H.k.size
     exact (hN _ _ (H.k.call hb) trivial ⟨(fun h=>by rw [put_ne' (by decide)];obtain ⟨m1',e,f1'⟩:=x0 h;exact ⟨m1',e,f1'.below hb leR⟩),(fun h=>by rw [put_ne' (by decide)];obtain ⟨A2',c2',e,f2'⟩:=x1 h;exact ⟨A2',c2',e,f2'.below hb leR⟩),(fun h=>by rw [put_ne' (by decide)];obtain ⟨m3',e,f3'⟩:=x2 h;exact ⟨m3',e,f3'.below hb leR⟩),(fun _=>by rw [put_get_self (H.f.lt (by rw [hz];decide))];exact ⟨A4,c4,rfl,f4⟩),(fun h=>by rw [put_ne' (by decide)];obtain ⟨A4',c4',e,f4'⟩:=x4 h;exact ⟨A4',c4',e,f4'.below hb leR⟩),(fun h=>by rw [put_ne' (by decide)];obtain ⟨A4',c4',e,f4'⟩:=x5 h;exact ⟨A4',c4',e,f4'.below hb leR⟩),(fun h=>((x6 h).bel hb (fun _ ⟨A4',c4',e,f4'⟩=>⟨A4',c4',e,f4'.below hb leR⟩)).put (by decide) _)⟩)
    ·intro Lk ak ww H _ _ hN
     obtain ⟨x0,x1,x2,x3,x4,x5,x6⟩:=H.x
     obtain ⟨A4,c4,ee6,f4⟩:=x3 (H.r 6 rfl)
     exact wp_move rfl (ev ee6) (hN _ _ H.k trivial ⟨(fun h=>by rw [put_ne' (by decide)];obtain ⟨m1',e,f1'⟩:=x0 h;exact ⟨m1',e,f1'.below bR leR⟩),(fun h=>by rw [put_ne' (by decide)];obtain ⟨A2',c2',e,f2'⟩:=x1 h;exact ⟨A2',c2',e,f2'.below bR leR⟩),(fun h=>by rw [put_ne' (by decide)];obtain ⟨m3',e,f3'⟩:=x2 h;exact ⟨m3',e,f3'.below bR leR⟩),(fun h=>by rw [put_ne' (by decide)];obtain ⟨A4',c4',e,f4'⟩:=x3 h;exact ⟨A4',c4',e,f4'.below bR leR⟩),(fun _=>by rw [put_get_self (H.f.lt (by rw [hz];decide))];exact ⟨A4,c4,rfl,f4⟩),(fun h=>by rw [put_ne' (by decide)];obtain ⟨A4',c4',e,f4'⟩:=x5 h;exact ⟨A4',c4',e,f4'.below bR leR⟩),(fun h=>((x6 h).bel bR (fun _ ⟨A4',c4',e,f4'⟩=>⟨A4',c4',e,f4'.below bR leR⟩)).put (by decide) _)⟩)
    ·intro Lk ak ww H _ _ hN
     obtain ⟨x0,x1,x2,x3,x4,x5,x6⟩:=H.x
     obtain ⟨A4,c4,ee7,f4⟩:=x4 (H.r 7 rfl)
     exact wp_extract rfl (ev ee7) rfl (hN _ _ H.k trivial ⟨(fun h=>by rw [put_ne' (by decide)];obtain ⟨m1',e,f1'⟩:=x0 h;exact ⟨m1',e,f1'.below bR leR⟩),(fun h=>by rw [put_ne' (by decide)];obtain ⟨A2',c2',e,f2'⟩:=x1 h;exact ⟨A2',c2',e,f2'.below bR leR⟩),(fun h=>by rw [put_ne' (by decide)];obtain ⟨m3',e,f3'⟩:=x2 h;exact ⟨m3',e,f3'.below bR leR⟩),(fun h=>by rw [put_ne' (by decide)];obtain ⟨A4',c4',e,f4'⟩:=x3 h;exact ⟨A4',c4',e,f4'.below bR leR⟩),(fun h=>by rw [put_ne' (by decide)];obtain ⟨A4',c4',e,f4'⟩:=x4 h;exact ⟨A4',c4',e,f4'.below bR leR⟩),(fun _=>by rw [put_get_self (H.f.lt (by rw [hz];decide))];exact ⟨A4,c4,rfl,f4⟩),(fun h=>((x6 h).bel bR (fun _ ⟨A4',c4',e,f4'⟩=>⟨A4',c4',e,f4'.below bR leR⟩)).put (by decide) _)⟩)
    ·intro Lk ak ww H _ _ hN
     obtain ⟨x0,x1,x2,x3,x4,x5,x6⟩:=H.x
     obtain ⟨A4,c4,ee7,f4⟩:=x4 (H.r 7 rfl)
     exact wp_extract rfl (ev ee7) rfl (hN _ _ H.k rfl (hXb.q rfl H.x))
    ·intro Lk ak ww H _ _ hN
     obtain ⟨x0,x1,x2,x3,x4,x5,x6⟩:=H.x
     simp [go_sem]
     exact hN _ _ (H.k.alloc _) trivial ⟨(fun h=>by rw [put_ne' (by decide)];obtain ⟨m1',e,f1'⟩:=x0 h;exact ⟨m1',e,f1'.below (below_al bR _) leR⟩),(fun h=>by rw [put_ne' (by decide)];obtain ⟨A2',c2',e,f2'⟩:=x1 h;exact ⟨A2',c2',e,f2'.below (below_al bR _) leR⟩),(fun h=>by rw [put_ne' (by decide)];obtain ⟨m3',e,f3'⟩:=x2 h;exact ⟨m3',e,f3'.below (below_al bR _) leR⟩),(fun h=>by rw [put_ne' (by decide)];obtain ⟨A4',c4',e,f4'⟩:=x3 h;exact ⟨A4',c4',e,f4'.below (below_al bR _) leR⟩),(fun h=>by rw [put_ne' (by decide)];obtain ⟨A4',c4',e,f4'⟩:=x4 h;exact ⟨A4',c4',e,f4'.below (below_al bR _) leR⟩),(fun h=>by rw [put_ne' (by decide)];obtain ⟨A4',c4',e,f4'⟩:=x5 h;exact ⟨A4',c4',e,f4'.below (below_al bR _) leR⟩),(fun _=>by rw [show upd Lk 10 11=false from H.t 11 rfl];exact BoxX.new (s:=8) (H.f.lt (by rw [hz];decide)) H.k.size [.slice none 0 0])⟩
    ·intro Lk ak ww H _ _ hN
     obtain ⟨x0,x1,x2,x3,x4,x5,x6⟩:=H.x
     obtain ⟨A4,c4,ee8,f4⟩:=x5 (H.r 8 rfl)
     obtain ⟨g,eg,hg,y,_⟩:=x6 (H.r 10 rfl)
     have HT:=y H.n
     simp [go_sem,ee8,eg,HT.cell,HT.frz]
     have f4:=f4.otherC (f4.typ HT (by decide)) [.slice A4 ((pkR r ms p).length) c4] 0
     exact hN undef _ (H.k.store (.inl hg) [.slice A4 ((pkR r ms p).length) c4] 0) trivial ⟨(fun h=>by obtain ⟨m1',e,f1'⟩:=x0 h;exact ⟨m1',e,f1'.otherT HT (by decide) (by decide) [.slice A4 ((pkR r ms p).length) c4] 0⟩),(fun h=>by obtain ⟨A2',c2',e,f2'⟩:=x1 h;exact ⟨A2',c2',e,f2'.otherC (f2'.typ HT (by decide)) [.slice A4 ((pkR r ms p).length) c4] 0⟩),(fun h=>by obtain ⟨m3',e,f3'⟩:=x2 h;exact ⟨m3',e,f3'.otherT HT (by decide) [.slice A4 ((pkR r ms p).length) c4] 0⟩),(fun h=>by obtain ⟨A4',c4',e,f4'⟩:=x3 h;exact ⟨A4',c4',e,f4'.otherC (f4'.typ HT (by decide)) [.slice A4 ((pkR r ms p).length) c4] 0⟩),(fun h=>by obtain ⟨A4',c4',e,f4'⟩:=x4 h;exact ⟨A4',c4',e,f4'.otherC (f4'.typ HT (by decide)) [.slice A4 ((pkR r ms p).length) c4] 0⟩),(fun h=>by obtain ⟨A4',c4',e,f4'⟩:=x5 h;exact ⟨A4',c4',e,f4'.otherC (f4'.typ HT (by decide)) [.slice A4 ((pkR r ms p).length) c4] 0⟩),(fun _=>BoxX.set eg hg HT (us:=[.slice A4 ((pkR r ms p).length) c4]) rfl ⟨A4,c4,rfl,f4⟩)⟩
    ·exact fun Lk ak ww H _ _ hN=>wp_assign rfl (ev (H.d 9 rfl rfl)) (hN _ _ H.k rfl (hXb.q rfl H.x))
    intro L a40 w41 hL hF hK hV hX
    obtain ⟨x0,x1,x2,x3,x4,x5,x6⟩:=hX
    replace hz:=hF.Z hz;replace hdf:=hF.E hdf;replace s1:=hF.G s1;replace s3:=hF.G s3;replace s5:=hF.G s5;have s9:=gS a40 9 (hV 12 _ rfl);replace b3:=b3.k0 hK;replace b4:=b4.k0 hK
    obtain ⟨g42,s8,lg42,-,b42⟩:=x6 (hL 10 (by decide))
    obtain ⟨_,b42,A4,c4,rfl,N4⟩:=b42 (hL 11 (by decide))
    have i4:∀ p,A4=some p→p.block<w41.heap.size:=fun p hp=>(N4.blk p hp).2
    have ug42:=b42.lt
    have BL4:BlkL w39.heap.size w41.heap.size [⟨A4,c4⟩]:=N4.blkL;have zw39:=hZ;have zw41:=hK.size;replace hZ:=Nat.le_refl w41.heap.size;replace hB:=hK.below0 hB;clear hF hK hV hL x0 x1 x2 x3 x4 x5 x6 hXb s34;refine th_n ?_;refine wp_seq ?_
    refine wp_regJ (by kernel_rfl) [45,46,10,0] [some (roomV r r_a),none,none,none] (dlR 4) [45,46,10] [0,1,2,3] [] (fun L aa ww=>(L 1=true→(fun ww v=>∃ m5,v=roomV r m5∧RoomNew ww w41.heap.size r m5) ww (aa.tmps[46]?.getD undef))∧(L 2=true→BoxX w41 aa ww 10 39 [.slice none 0 0,.int .i64 0,.int .i64 0,.int .i64 0,.int .i64 0,.int .i64 0,.slice none 0 0,.slice none 0 0] (L 3) (fun ww vs=>∃ m5,vs=(roomC r m5)∧RoomNew ww w41.heap.size r m5))) (by kernel_rfl) (by rw [hz];decide) ?_ (en rfl ?_ (en rfl ?_ (en rfl ?_ (en rfl ?_ .nil)))) ?_
    ·exact fun _ h=>⟨(fun h=>by cases h),(fun h=>by cases h)⟩
    ·intro Lk ak ww H _ _ hN
     simp [go_sem,H.f.g rfl s3,(b3.k0 H.k).cell]
     exact (hN _ _ H.k rfl ⟨(fun h=>by rw [put_ne' (by decide)];obtain ⟨m5',e,f5'⟩:=H.x.1 h;exact ⟨m5',e,f5'.below bR leR⟩),(fun h=>((H.x.2 h).bel bR (fun _ ⟨m5',e,f5'⟩=>⟨m5',e,f5'.below bR leR⟩)).put (by decide) _)⟩)
    ·intro Lk ak ww H _ _ hN
     obtain ⟨x0,x1⟩:=H.x
     simp [go_sem,(gS ak 45 (H.d 0 rfl rfl))]
     have hBi:=H.k.below0 hB
     refine (toRoom_c r r_a ww (by have:=dec_f q7;have:=dec_f q18;have:=dec_f q29;(try unfold regionLen at *);omega) (hs_r.below hBi)).mono ?_
     rintro x wx ⟨m5,rfl,f0,hb⟩
     have f5:=f0.mono H.k.size
     exact (hN _ _ (H.k.call hb) trivial ⟨(fun _=>by rw [put_get_self (H.f.lt (by rw [hz];decide))];exact ⟨m5,rfl,f5⟩),(fun h=>((x1 h).bel hb (fun _ ⟨m5',e,f5'⟩=>⟨m5',e,f5'.below hb leR⟩)).put (by decide) _)⟩)
    ·intro Lk ak ww H _ _ hN
     obtain ⟨x0,x1⟩:=H.x
     simp [go_sem]
     exact hN _ _ (H.k.alloc _) trivial ⟨(fun h=>by rw [put_ne' (by decide)];obtain ⟨m5',e,f5'⟩:=x0 h;exact ⟨m5',e,f5'.below (below_al bR _) leR⟩),(fun _=>by rw [show upd Lk 2 3=false from H.t 3 rfl];exact BoxX.new (s:=10) (H.f.lt (by rw [hz];decide)) H.k.size [.slice none 0 0,.int .i64 0,.int .i64 0,.int .i64 0,.int .i64 0,.int .i64 0,.slice none 0 0,.slice none 0 0])⟩
    ·intro Lk ak ww H _ _ hN
     obtain ⟨x0,x1⟩:=H.x
     obtain ⟨m5,ee1,f5⟩:=x0 (H.r 1 rfl)
     obtain ⟨g,eg,hg,y,_⟩:=x1 (H.r 2 rfl)
     have HT:=y H.n
     simp [go_sem,ee1,eg,HT.cell,HT.frz]
     have f5:=f5.otherT HT (by decide) (by decide) [.slice m5.map.A r.map.length m5.map.c,.int .i64 r.div,.int .i64 r.bx,.int .i64 r.by_,.int .i64 r.low,.int .i64 r.high,.slice m5.noise.A r.noise.length m5.noise.c,.slice m5.limits.A r.limits.length m5.limits.c] 0
     exact hN undef _ (H.k.store (.inl hg) [.slice m5.map.A r.map.length m5.map.c,.int .i64 r.div,.int .i64 r.bx,.int .i64 r.by_,.int .i64 r.low,.int .i64 r.high,.slice m5.noise.A r.noise.length m5.noise.c,.slice m5.limits.A r.limits.length m5.limits.c] 0) trivial ⟨(fun h=>by obtain ⟨m5',e,f5'⟩:=x0 h;exact ⟨m5',e,f5'.otherT HT (by decide) (by decide) [.slice m5.map.A r.map.length m5.map.c,.int .i64 r.div,.int .i64 r.bx,.int .i64 r.by_,.int .i64 r.low,.int .i64 r.high,.slice m5.noise.A r.noise.length m5.noise.c,.slice m5.limits.A r.limits.length m5.limits.c] 0⟩),(fun _=>BoxX.set eg hg HT (us:=[.slice m5.map.A r.map.length m5.map.c,.int .i64 r.div,.int .i64 r.bx,.int .i64 r.by_,.int .i64 r.low,.int .i64 r.high,.slice m5.noise.A r.noise.length m5.noise.c,.slice m5.limits.A r.limits.length m5.limits.c]) rfl ⟨m5,rfl,f5⟩)⟩
    intro L a43 w44 hL hF hK hV hX
    obtain ⟨x0,x1⟩:=hX
    replace hz:=hF.Z hz;replace hdf:=hF.E hdf;replace s1:=hF.G s1;replace s3:=hF.G s3;replace s5:=hF.G s5;replace s9:=hF.G s9;replace s8:=hF.G s8;replace b3:=b3.k0 hK;replace b4:=b4.k0 hK;replace b42:=b42.k0 hK
    obtain ⟨g45,s10,lg45,-,b45⟩:=x1 (hL 2 (by decide))
    obtain ⟨_,b45,m5,rfl,N5⟩:=b45 (hL 3 (by decide))
    have ug45:=b45.lt
    replace N4:=N4.below hK.toBelow leR;have BL5:BlkL w41.heap.size w44.heap.size [m5.map,m5.noise,m5.limits]:=N5.blkL;have zw44:=hK.size;replace hZ:=Nat.le_refl w44.heap.size;replace hB:=hK.below0 hB;clear hF hK hV hL x0 x1;refine th_n ?_;refine wp_seq ?_
    refine wp_regJ (by kernel_rfl) [47,48,11] [some (.slice ms_A ms.length ms_c),none,none] (dlR 3) [47,48,11] [0,1,2] [] (fun L aa ww=>(L 1=true→(fun ww v=>∃ A6 c6,v=.slice A6 ms.length c6∧New 153 2 modeC ww w44.heap.size (.slice A6 (ms).length c6) ms) ww (aa.tmps[48]?.getD undef))∧(L 2=true→(fun ww v=>∃ A6 c6,v=.slice A6 ms.length c6∧New 153 2 modeC ww w44.heap.size (.slice A6 (ms).length c6) ms) ww (aa.tmps[11]?.getD undef))) (by kernel_rfl) (by rw [hz];decide) ?_ (en rfl ?_ (en rfl ?_ (en rfl ?_ .nil))) ?_
    ·exact fun _ h=>⟨(fun h=>by cases h),(fun h=>by cases h)⟩
    ·exact fun Lk ak ww H _ _ hN=>wp_move rfl (ev (H.f.g rfl s1)) (hN _ _ H.k rfl ⟨(fun h=>by rw [put_ne' (by decide)];obtain ⟨A6',c6',e,f6'⟩:=H.x.1 h;exact ⟨A6',c6',e,f6'.below bR leR⟩),(fun h=>by rw [put_ne' (by decide)];obtain ⟨A6',c6',e,f6'⟩:=H.x.2 h;exact ⟨A6',c6',e,f6'.below bR leR⟩)⟩)
    ·intro Lk ak ww H _ _ hN
     obtain ⟨x0,x1⟩:=H.x
     simp [go_sem,(gS ak 47 (H.d 0 rfl rfl))]
     have hBi:=H.k.below0 hB
     refine (toModeS_c ms_A ms ms_c ww (by have:=dec_f q7;have:=dec_f q18;have:=dec_f q29;(try unfold regionLen at *);omega) (hs_ms.below hBi)).mono ?_
     rintro x wx ⟨_,rfl,⟨A6,c6,rfl,f0⟩,hb⟩
     have f6:=New.mono (show New 153 2 modeC wx ww.heap.size (.slice A6 (ms).length c6) ms from ⟨_,_,rfl,f0⟩) H.k.size
     exact (hN _ _ (H.k.call hb) trivial ⟨(fun _=>by rw [put_get_self (H.f.lt (by rw [hz];decide))];exact ⟨A6,c6,rfl,f6⟩),(fun h=>by rw [put_ne' (by decide)];obtain ⟨A6',c6',e,f6'⟩:=x1 h;exact ⟨A6',c6',e,f6'.below hb leR⟩)⟩)
    ·intro Lk ak ww H _ _ hN
     obtain ⟨x0,x1⟩:=H.x
     obtain ⟨A6,c6,ee1,f6⟩:=x0 (H.r 1 rfl)
     exact wp_assign rfl (ev ee1) (hN _ _ H.k trivial ⟨(fun h=>by rw [put_ne' (by decide)];obtain ⟨A6',c6',e,f6'⟩:=x0 h;exact ⟨A6',c6',e,f6'.below bR leR⟩),(fun _=>by rw [put_get_self (H.f.lt (by rw [hz];decide))];exact ⟨A6,c6,rfl,f6⟩)⟩)
    intro L a46 w47 hL hF hK hV hX
    obtain ⟨x0,x1⟩:=hX
    replace hz:=hF.Z hz;replace hdf:=hF.E hdf;replace s1:=hF.G s1;replace s3:=hF.G s3;replace s5:=hF.G s5;replace s9:=hF.G s9;replace s8:=hF.G s8;replace s10:=hF.G s10;replace b3:=b3.k0 hK;replace b4:=b4.k0 hK;replace b42:=b42.k0 hK;replace b45:=b45.k0 hK
    obtain ⟨A6,c6,s11,N6⟩:=x1 (hL 2 (by decide))
    replace N4:=N4.below hK.toBelow leR;replace N5:=N5.below hK.toBelow leR;have BL6:BlkL w44.heap.size w47.heap.size [⟨A6,c6⟩]:=N6.blkL;have zw47:=hK.size;replace hZ:=Nat.le_refl w47.heap.size;replace hB:=hK.below0 hB;clear hF hK hV hL x0 x1;refine th_n ?_;refine wp_seq ?_
    refine wp_regJ (by kernel_rfl) [49,50,12,0] [some (.agg #[.slice p_a.A p.length p_a.c]),none,none,none] (dlR 4) [49,50,12] [0,1,2,3] [] (fun L aa ww=>(L 1=true→(fun ww v=>∃ m7,v=.agg #[.slice m7.A p.length m7.c]∧RegionNew ww w47.heap.size p m7) ww (aa.tmps[50]?.getD undef))∧(L 2=true→BoxX w47 aa ww 12 37 [.slice none 0 0] (L 3) (fun ww vs=>∃ m7,vs=[.slice m7.A p.length m7.c]∧RegionNew ww w47.heap.size p m7))) (by kernel_rfl) (by rw [hz];decide) ?_ (en rfl ?_ (en rfl ?_ (en rfl ?_ (en rfl ?_ .nil)))) ?_
    ·exact fun _ h=>⟨(fun h=>by cases h),(fun h=>by cases h)⟩
    ·intro Lk ak ww H _ _ hN
     simp [go_sem,H.f.g rfl s5,(b4.k0 H.k).cell]
     exact (hN _ _ H.k rfl ⟨(fun h=>by rw [put_ne' (by decide)];obtain ⟨m7',e,f7'⟩:=H.x.1 h;exact ⟨m7',e,f7'.below bR leR⟩),(fun h=>((H.x.2 h).bel bR (fun _ ⟨m7',e,f7'⟩=>⟨m7',e,f7'.below bR leR⟩)).put (by decide) _)⟩)
    ·intro Lk ak ww H _ _ hN
     obtain ⟨x0,x1⟩:=H.x
     simp [go_sem,(gS ak 49 (H.d 0 rfl rfl))]
     have hBi:=H.k.below0 hB
     refine (toRegion_c p p_a ww (by have:=dec_f q7;have:=dec_f q18;have:=dec_f q29;(try unfold regionLen at *);omega) ⟨(hs_p.halves.below hBi)⟩).mono ?_
     rintro x wx ⟨m7,rfl,f0,hb⟩
     have f7:=f0.mono H.k.size
     exact (hN _ _ (H.k.call hb) trivial ⟨(fun _=>by rw [put_get_self (H.f.lt (by rw [hz];decide))];exact ⟨m7,rfl,f7⟩),(fun h=>((x1 h).bel hb (fun _ ⟨m7',e,f7'⟩=>⟨m7',e,f7'.below hb leR⟩)).put (by decide) _)⟩)
    ·intro Lk ak ww H _ _ hN
     obtain ⟨x0,x1⟩:=H.x
     simp [go_sem]
     exact hN _ _ (H.k.alloc _) trivial ⟨(fun h=>by rw [put_ne' (by decide)];obtain ⟨m7',e,f7'⟩:=x0 h;exact ⟨m7',e,f7'.below (below_al bR _) leR⟩),(fun _=>by rw [show upd Lk 2 3=false from H.t 3 rfl];exact BoxX.new (s:=12) (H.f.lt (by rw [hz];decide)) H.k.size [.slice none 0 0])⟩
    ·intro Lk ak ww H _ _ hN
     obtain ⟨x0,x1⟩:=H.x
     obtain ⟨m7,ee1,f7⟩:=x0 (H.r 1 rfl)
     obtain ⟨g,eg,hg,y,_⟩:=x1 (H.r 2 rfl)
     have HT:=y H.n
     simp [go_sem,ee1,eg,HT.cell,HT.frz]
     have f7:=f7.otherT HT (by decide) [.slice m7.A p.length m7.c] 0
     exact hN undef _ (H.k.store (.inl hg) [.slice m7.A p.length m7.c] 0) trivial ⟨(fun h=>by obtain ⟨m7',e,f7'⟩:=x0 h;exact ⟨m7',e,f7'.otherT HT (by decide) [.slice m7.A p.length m7.c] 0⟩),(fun _=>BoxX.set eg hg HT (us:=[.slice m7.A p.length m7.c]) rfl ⟨m7,rfl,f7⟩)⟩
    intro L a48 w49 hL hF hK hV hX
    obtain ⟨x0,x1⟩:=hX
    replace hz:=hF.Z hz;replace hdf:=hF.E hdf;replace s1:=hF.G s1;replace s3:=hF.G s3;replace s5:=hF.G s5;replace s9:=hF.G s9;replace s8:=hF.G s8;replace s10:=hF.G s10;replace s11:=hF.G s11;replace b3:=b3.k0 hK;replace b4:=b4.k0 hK;replace b42:=b42.k0 hK;replace b45:=b45.k0 hK
    obtain ⟨g50,s12,lg50,-,b50⟩:=x1 (hL 2 (by decide))
    obtain ⟨_,b50,m7,rfl,N7⟩:=b50 (hL 3 (by decide))
    have ug50:=b50.lt
    replace N4:=N4.below hK.toBelow leR;replace N5:=N5.below hK.toBelow leR;replace N6:=N6.below hK.toBelow leR;have BL7:BlkL w47.heap.size w49.heap.size [m7]:=N7.blkL;have zw49:=hK.size;replace hZ:=Nat.le_refl w49.heap.size;replace hB:=hK.below0 hB;clear hF hK hV hL x0 x1;refine th_n ?_;refine wp_seq ?_
    have hXb:StaysX [13,51,55,56] (fun L aa ww=>(L 3=true→(fun ww v=>∃ A8 c8,v=.tuple #[.agg #[.slice A8 ((pkR r ms p).length) c8],.bool (pkOk r ms p)]∧New 111 3 halfC ww w49.heap.size (.slice A8 (pkR r ms p).length c8) (pkR r ms p)) ww (aa.tmps[55]?.getD undef))∧(L 4=true→(fun ww v=>∃ A8 c8,v=.tuple #[.agg #[.slice A8 ((pkR r ms p).length) c8],.bool (pkOk r ms p)]∧New 111 3 halfC ww w49.heap.size (.slice A8 (pkR r ms p).length c8) (pkR r ms p)) ww (aa.tmps[51]?.getD undef))∧(L 5=true→(fun ww v=>∃ A8 c8,v=.agg #[.slice A8 ((pkR r ms p).length) c8]∧New 111 3 halfC ww w49.heap.size (.slice A8 (pkR r ms p).length c8) (pkR r ms p)) ww (aa.tmps[56]?.getD undef))∧(L 7=true→BoxX w49 aa ww 13 37 [.slice none 0 0] (L 8) (fun ww vs=>∃ A8 c8,vs=[.slice A8 ((pkR r ms p).length) c8]∧New 111 3 halfC ww w49.heap.size (.slice A8 (pkR r ms p).length c8) (pkR r ms p)))):=by
     intro L aa ww w' kk vv hkk hb hX
     obtain ⟨x0,x1,x2,x3⟩:=hX
     exact ⟨(fun h=>by rw [put_ne' (hkk 55 (by simp))];obtain ⟨A8',c8',e,f8'⟩:=x0 h;exact ⟨A8',c8',e,f8'.below hb leR⟩),(fun h=>by rw [put_ne' (hkk 51 (by simp))];obtain ⟨A8',c8',e,f8'⟩:=x1 h;exact ⟨A8',c8',e,f8'.below hb leR⟩),(fun h=>by rw [put_ne' (hkk 56 (by simp))];obtain ⟨A8',c8',e,f8'⟩:=x2 h;exact ⟨A8',c8',e,f8'.below hb leR⟩),(fun h=>((x3 h).bel hb (fun _ ⟨A8',c8',e,f8'⟩=>⟨A8',c8',e,f8'.below hb leR⟩)).put (hkk 13 (by simp)) _)⟩
    refine wp_regK hXb (by kernel_rfl) [52,53,54,55,51,56,57,13,0,14] [some (roomV r m5),some (.slice A6 ms.length c6),some (.agg #[.slice m7.A p.length m7.c]),none,none,none,some (.bool (pkOk r ms p)),none,none,some (.bool (pkOk r ms p))] (dlR 10) [52,53,54,55,51,56,57,13,14] [0,1,2,3,4,5,6,7,8,9] [] (by kernel_rfl) (by rw [hz];decide) ?_ (en rfl ?_ (en rfl ?_ (en rfl ?_ (en rfl ?_ (en rfl ?_ (en rfl ?_ (en rfl ?_ (en rfl ?_ (en rfl ?_ (en rfl ?_ .nil)))))))))) ?_
    ·exact fun _ h=>⟨(fun h=>by cases h),(fun h=>by cases h),(fun h=>by cases h),(fun h=>by cases h)⟩
    ·intro Lk ak ww H _ _ hN
     simp [go_sem,H.f.g rfl s10,(b45.k0 H.k).cell]
     exact (hN _ _ H.k rfl (hXb.q rfl H.x))
    ·exact fun Lk ak ww H _ _ hN=>wp_move rfl (ev (H.f.g rfl s11)) (hN _ _ H.k rfl (hXb.q rfl H.x))
    ·intro Lk ak ww H _ _ hN
     simp [go_sem,H.f.g rfl s12,(b50.k0 H.k).cell]
     exact (hN _ _ H.k rfl (hXb.q rfl H.x))
    ·intro Lk ak ww H _ _ hN
     obtain ⟨x0,x1,x2,x3⟩:=H.x
     simp [go_sem,(gS ak 52 (H.d 0 rfl rfl)),(gS ak 53 (H.d 1 rfl rfl)),(gS ak 54 (H.d 2 rfl rfl))]
     refine (iPlant_c r ms p m5 ⟨A6,c6⟩ m7 ww (by have:=dec_f q7;have:=dec_f q18;have:=dec_f q29;(try unfold regionLen at *);omega) hin_r hin_ms ((N5.below H.k.toBelow leR).sl) N5.nil (by have:=dec_f q7;have:=dec_f q18;have:=dec_f q29;(try unfold regionLen at *);omega) hin_p.halves (by have:=dec_f q7;have:=dec_f q18;have:=dec_f q29;(try unfold regionLen at *);omega) ((N6.below H.k.toBelow leR).out modeC_len) ((N7.below H.k.toBelow leR).halves.out halfC_len) N7.halves.nilcap).mono ?_
     rintro x wx ⟨_,rfl,⟨A8,c8,rfl,f0⟩,hb⟩
     have f8:=New.mono (show New 111 3 halfC wx ww.heap.size (.slice A8 (pkR r ms p).length c8) (pkR r ms p) from ⟨_,_,rfl,f0⟩) H.k.size
     exact (hN _ _ (H.k.call hb) trivial ⟨(fun _=>by rw [put_get_self (H.f.lt (by rw [hz];decide))];exact ⟨A8,c8,rfl,f8⟩),(fun h=>by rw [put_ne' (by decide)];obtain ⟨A8',c8',e,f8'⟩:=x1 h;exact ⟨A8',c8',e,f8'.below hb leR⟩),(fun h=>by rw [put_ne' (by decide)];obtain ⟨A8',c8',e,f8'⟩:=x2 h;exact ⟨A8',c8',e,f8'.below hb leR⟩),(fun h=>((x3 h).bel hb (fun _ ⟨A8',c8',e,f8'⟩=>⟨A8',c8',e,f8'.below hb leR⟩)).put (by decide) _)⟩)
    ·intro Lk ak ww H _ _ hN
     obtain ⟨x0,x1,x2,x3⟩:=H.x
     obtain ⟨A8,c8,ee3,f8⟩:=x0 (H.r 3 rfl)
     exact wp_move rfl (ev ee3) (hN _ _ H.k trivial ⟨(fun h=>by rw [put_ne' (by decide)];obtain ⟨A8',c8',e,f8'⟩:=x0 h;exact ⟨A8',c8',e,f8'.below bR leR⟩),(fun _=>by rw [put_get_self (H.f.lt (by rw [hz];decide))];exact ⟨A8,c8,rfl,f8⟩),(fun h=>by rw [put_ne' (by decide)];obtain ⟨A8',c8',e,f8'⟩:=x2 h;exact ⟨A8',c8',e,f8'.below bR leR⟩),(fun h=>((x3 h).bel bR (fun _ ⟨A8',c8',e,f8'⟩=>⟨A8',c8',e,f8'.below bR leR⟩)).put (by decide) _)⟩)
    ·intro Lk ak ww H _ _ hN
     obtain ⟨x0,x1,x2,x3⟩:=H.x
     obtain ⟨A8,c8,ee4,f8⟩:=x1 (H.r 4 rfl)
     exact wp_extract rfl (ev ee4) rfl (hN _ _ H.k trivial ⟨(fun h=>by rw [put_ne' (by decide)];obtain ⟨A8',c8',e,f8'⟩:=x0 h;exact ⟨A8',c8',e,f8'.below bR leR⟩),(fun h=>by rw [put_ne' (by decide)];obtain ⟨A8',c8',e,f8'⟩:=x1 h;exact ⟨A8',c8',e,f8'.below bR leR⟩),(fun _=>by rw [put_get_self (H.f.lt (by rw [hz];decide))];exact ⟨A8,c8,rfl,f8⟩),(fun h=>((x3 h).bel bR (fun _ ⟨A8',c8',e,f8'⟩=>⟨A8',c8',e,f8'.below bR leR⟩)).put (by decide) _)⟩)
    ·intro Lk ak ww H _ _ hN
     obtain ⟨x0,x1,x2,x3⟩:=H.x
     obtain ⟨A8,c8,ee4,f8⟩:=x1 (H.r 4 rfl)
     exact wp_extract rfl (ev ee4) rfl (hN _ _ H.k rfl (hXb.q rfl H.x))
    ·intro Lk ak ww H _ _ hN
     obtain ⟨x0,x1,x2,x3⟩:=H.x
     simp [go_sem]
     exact hN _ _ (H.k.alloc _) trivial ⟨(fun h=>by rw [put_ne' (by decide)];obtain ⟨A8',c8',e,f8'⟩:=x0 h;exact ⟨A8',c8',e,f8'.below (below_al bR _) leR⟩),(fun h=>by rw [put_ne' (by decide)];obtain ⟨A8',c8',e,f8'⟩:=x1 h;exact ⟨A8',c8',e,f8'.below (below_al bR _) leR⟩),(fun h=>by rw [put_ne' (by decide)];obtain ⟨A8',c8',e,f8'⟩:=x2 h;exact ⟨A8',c8',e,f8'.below (below_al bR _) leR⟩),(fun _=>by rw [show upd Lk 7 8=false from H.t 8 rfl];exact BoxX.new (s:=13) (H.f.lt (by rw [hz];decide)) H.k.size [.slice none 0 0])⟩
    ·intro Lk ak ww H _ _ hN
     obtain ⟨x0,x1,x2,x3⟩:=H.x
     obtain ⟨A8,c8,ee5,f8⟩:=x2 (H.r 5 rfl)
     obtain ⟨g,eg,hg,y,_⟩:=x3 (H.r 7 rfl)
     have HT:=y H.n
     simp [go_sem,ee5,eg,HT.cell,HT.frz]
     have f8:=f8.otherC (f8.typ HT (by decide)) [.slice A8 ((pkR r ms p).length) c8] 0
     exact hN undef _ (H.k.store (.inl hg) [.slice A8 ((pkR r ms p).length) c8] 0) trivial ⟨(fun h=>by obtain ⟨A8',c8',e,f8'⟩:=x0 h;exact ⟨A8',c8',e,f8'.otherC (f8'.typ HT (by decide)) [.slice A8 ((pkR r ms p).length) c8] 0⟩),(fun h=>by obtain ⟨A8',c8',e,f8'⟩:=x1 h;exact ⟨A8',c8',e,f8'.otherC (f8'.typ HT (by decide)) [.slice A8 ((pkR r ms p).length) c8] 0⟩),(fun h=>by obtain ⟨A8',c8',e,f8'⟩:=x2 h;exact ⟨A8',c8',e,f8'.otherC (f8'.typ HT (by decide)) [.slice A8 ((pkR r ms p).length) c8] 0⟩),(fun _=>BoxX.set eg hg HT (us:=[.slice A8 ((pkR r ms p).length) c8]) rfl ⟨A8,c8,rfl,f8⟩)⟩
    ·exact fun Lk ak ww H _ _ hN=>wp_assign rfl (ev (H.d 6 rfl rfl)) (hN _ _ H.k rfl (hXb.q rfl H.x))
    intro L a51 w52 hL hF hK hV hX
    obtain ⟨x0,x1,x2,x3⟩:=hX
    replace hz:=hF.Z hz;replace hdf:=hF.E hdf;replace s1:=hF.G s1;replace s3:=hF.G s3;replace s5:=hF.G s5;replace s9:=hF.G s9;replace s8:=hF.G s8;replace s10:=hF.G s10;replace s11:=hF.G s11;replace s12:=hF.G s12;have s14:=gS a51 14 (hV 9 _ rfl);replace b3:=b3.k0 hK;replace b4:=b4.k0 hK;replace b42:=b42.k0 hK;replace b45:=b45.k0 hK;replace b50:=b50.k0 hK
    obtain ⟨g53,s13,lg53,-,b53⟩:=x3 (hL 7 (by decide))
    obtain ⟨_,b53,A8,c8,rfl,N8⟩:=b53 (hL 8 (by decide))
    have i8:∀ p,A8=some p→p.block<w52.heap.size:=fun p hp=>(N8.blk p hp).2
    have ug53:=b53.lt
    replace N4:=N4.below hK.toBelow leR;replace N5:=N5.below hK.toBelow leR;replace N6:=N6.below hK.toBelow leR;replace N7:=N7.below hK.toBelow leR;have BL8:BlkL w49.heap.size w52.heap.size [⟨A8,c8⟩]:=N8.blkL;have zw52:=hK.size;replace hZ:=Nat.le_refl w52.heap.size;replace hB:=hK.below0 hB;clear hF hK hV hL x0 x1 x2 x3 hXb;refine th_n ?_;refine wp_seq ?_;refine wp_seq ?_
    refine wp_regJ (by kernel_rfl) [58,59,60,61,62,63,64,65,66] [some (.agg #[.slice A8 ((pkR r ms p).length) c8]),some (.agg #[.slice A4 ((pkR r ms p).length) c4]),some (.bool true),some (.bool false),some (.bool false),some (.bool (pkOk r ms p)),some (.bool (pkOk r ms p)),some (.bool false),some (.bool false)] (dlR 9) [58,59,60,61,62,63,64,65,66] [0,1,2,3,4,5,6,7,8] [] (fun _ _ _=>True) (by kernel_rfl) (by rw [hz];decide) ?_ (en rfl ?_ (en rfl ?_ (en rfl ?_ (en rfl ?_ (en rfl ?_ (eg ?_ (eg ?_ (eg ?_ (en rfl ?_ .nil))))))))) ?_
    ·exact fun _ _=>trivial
    ·intro Lk ak ww H _ _ hN
     simp [go_sem,H.f.g rfl s13,(b53.k0 H.k).cell]
     exact (hN _ _ H.k rfl trivial)
    ·intro Lk ak ww H _ _ hN
     simp [go_sem,H.f.g rfl s8,(b42.k0 H.k).cell]
     exact (hN _ _ H.k rfl trivial)
    ·intro Lk ak ww H _ _ hN
     simp [go_sem,(gS ak 58 (H.d 0 rfl rfl)),(gS ak 59 (H.d 1 rfl rfl))]
     refine (eqRegion_t (pkR r ms p) ⟨A8,c8⟩ ⟨A4,c4⟩ ww (by have:=dec_f q7;have:=dec_f q18;have:=dec_f q29;(try unfold regionLen at *);omega) ⟨((N8.below H.k.toBelow leR).out halfC_len)⟩ ⟨((N4.below H.k.toBelow leR).out halfC_len)⟩).mono ?_
     rintro x wx ⟨rfl,hb⟩
     exact (hN _ _ (H.k.call hb) rfl trivial)
    ·exact fun Lk ak ww H _ _ hN=>wp_not rfl (ev (H.d 2 rfl rfl)) (hN _ _ H.k rfl trivial)
    ·exact fun Lk ak ww H _ _ hN=>wp_move rfl (ev (H.d 3 rfl rfl)) (hN _ _ H.k rfl trivial)
    ·intro Lk ak ww H _ _ hN
     refine wnt_y rfl rfl rfl (H.d 4 rfl rfl) ?_
     exact wp_move rfl (ev (H.f.g rfl s14)) (hN _ _ H.k rfl trivial)
    ·intro Lk ak ww H _ _ hN
     refine wnt_y rfl rfl rfl (H.d 4 rfl rfl) ?_
     exact wp_move rfl (ev (H.f.g rfl s9)) (hN _ _ H.k rfl trivial)
    ·intro Lk ak ww H _ _ hN
     refine wnt_y rfl rfl rfl (H.d 4 rfl rfl) ?_
     simp [go_sem,(gS ak 63 (H.d 5 rfl rfl)),(gS ak 64 (H.d 6 rfl rfl))]
     exact (hN _ _ H.k rfl trivial)
    ·exact fun Lk ak ww H _ _ hN=>wp_pick rfl (ev (H.d 4 rfl rfl)) (fun h=>by cases h) (fun _=>(ev (H.d 7 rfl rfl))) (hN _ _ H.k rfl trivial)
    intro L a54 w55 hL hF hK hV hX;replace hz:=hF.Z hz;replace hdf:=hF.E hdf;replace s1:=hF.G s1;replace s3:=hF.G s3;replace s5:=hF.G s5;replace s9:=hF.G s9;replace s8:=hF.G s8;replace s10:=hF.G s10;replace s11:=hF.G s11;replace s12:=hF.G s12;replace s14:=hF.G s14;replace s13:=hF.G s13;have s66:=gS a54 66 (hV 8 _ rfl);replace b3:=b3.k0 hK;replace b4:=b4.k0 hK;replace b42:=b42.k0 hK;replace b45:=b45.k0 hK;replace b50:=b50.k0 hK;replace b53:=b53.k0 hK;replace N4:=N4.below hK.toBelow leR;replace N5:=N5.below hK.toBelow leR;replace N6:=N6.below hK.toBelow leR;replace N7:=N7.below hK.toBelow leR;replace N8:=N8.below hK.toBelow leR;replace hZ:=Nat.le_trans hZ hK.size;replace hB:=hK.below0 hB;clear hF hK hV hL hX;refine th_n ?_
    refine wp_cond_false (ev s66) ?_
    refine wp_skip ?_;refine th_n ?_;refine wp_seq ?_;refine wp_seq ?_
    have hXb:StaysX [69] (fun L aa ww=>(L 2=true→(fun ww v=>∃ m9,v=roomV r m9∧RoomNew ww w55.heap.size r m9) ww (aa.tmps[69]?.getD undef))):=by
     intro L aa ww w' kk vv hkk hb hX
     have x0:=hX
     exact (fun h=>by rw [put_ne' (hkk 69 (by simp))];obtain ⟨m9',e,f9'⟩:=x0 h;exact ⟨m9',e,f9'.below hb leR⟩)
    refine wp_regK hXb (by kernel_rfl) [67,68,69,70,71] [some (roomV r m5),some (roomV r r_a),none,some (.bool true),some (.bool false)] ([[],[],[1],[0,1,2],[0,1,2,3]]) [67,68,69,70,71] [0,1,2,3,4] [] (by kernel_rfl) (by rw [hz];decide) ?_ (en rfl ?_ (en rfl ?_ (en rfl ?_ (en rfl ?_ (en rfl ?_ .nil))))) ?_
    ·exact fun _ h=>(fun h=>by cases h)
    ·intro Lk ak ww H _ _ hN
     simp [go_sem,H.f.g rfl s10,(b45.k0 H.k).cell]
     exact (hN _ _ H.k rfl (hXb.q rfl H.x))
    ·intro Lk ak ww H _ _ hN
     simp [go_sem,H.f.g rfl s3,(b3.k0 H.k).cell]
     exact (hN _ _ H.k rfl (hXb.q rfl H.x))
    ·intro Lk ak ww H _ _ hN
     have x0:=H.x
     simp [go_sem,(gS ak 68 (H.d 1 rfl rfl))]
     have hBi:=H.k.below0 hB
     refine (toRoom_c r r_a ww (by have:=dec_f q7;have:=dec_f q18;have:=dec_f q29;(try unfold regionLen at *);omega) (hs_r.below hBi)).mono ?_
     rintro x wx ⟨m9,rfl,f0,hb⟩
     have f9:=f0.mono H.k.size
     exact (hN _ _ (H.k.call hb) trivial (fun _=>by rw [put_get_self (H.f.lt (by rw [hz];decide))];exact ⟨m9,rfl,f9⟩))
    ·intro Lk ak ww H _ _ hN
     have x0:=H.x
     obtain ⟨m9,ee2,f9⟩:=x0 (H.r 2 rfl)
     simp [go_sem,(gS ak 67 (H.d 0 rfl rfl)),ee2]
     refine (eqRoom_t r m5 m9 ww (by have:=dec_f q7;have:=dec_f q18;have:=dec_f q29;(try unfold regionLen at *);omega) ((N5.below H.k.toBelow leR).sl) f9.sl).mono ?_
     rintro x wx ⟨rfl,hb⟩
     exact (hN _ _ (H.k.call hb) rfl (hXb.b rfl hb H.x))
    ·exact fun Lk ak ww H _ _ hN=>wp_not rfl (ev (H.d 3 rfl rfl)) (hN _ _ H.k rfl (hXb.q rfl H.x))
    intro L a56 w57 hL hF hK hV hX;have x0:=hX;replace hz:=hF.Z hz;replace hdf:=hF.E hdf;replace s1:=hF.G s1;replace s3:=hF.G s3;replace s5:=hF.G s5;replace s9:=hF.G s9;replace s8:=hF.G s8;replace s10:=hF.G s10;replace s11:=hF.G s11;replace s12:=hF.G s12;replace s14:=hF.G s14;replace s13:=hF.G s13;have s71:=gS a56 71 (hV 4 _ rfl);replace b3:=b3.k0 hK;replace b4:=b4.k0 hK;replace b42:=b42.k0 hK;replace b45:=b45.k0 hK;replace b50:=b50.k0 hK;replace b53:=b53.k0 hK;replace N4:=N4.below hK.toBelow leR;replace N5:=N5.below hK.toBelow leR;replace N6:=N6.below hK.toBelow leR;replace N7:=N7.below hK.toBelow leR;replace N8:=N8.below hK.toBelow leR;replace hZ:=Nat.le_trans hZ hK.size;replace hB:=hK.below0 hB;clear hF hK hV hL x0 hXb s66;refine th_n ?_
    refine wp_cond_false (ev s71) ?_
    refine wp_skip ?_;refine th_n ?_;refine wp_seq ?_;refine wp_seq ?_
    have hXb:StaysX [74] (fun L aa ww=>(L 2=true→(fun ww v=>∃ A10 c10,v=.slice A10 ms.length c10∧New 153 2 modeC ww w57.heap.size (.slice A10 (ms).length c10) ms) ww (aa.tmps[74]?.getD undef))):=by
     intro L aa ww w' kk vv hkk hb hX
     have x0:=hX
     exact (fun h=>by rw [put_ne' (hkk 74 (by simp))];obtain ⟨A10',c10',e,f10'⟩:=x0 h;exact ⟨A10',c10',e,f10'.below hb leR⟩)
    refine wp_regK hXb (by kernel_rfl) [72,73,74,75,76] [some (.slice A6 ms.length c6),some (.slice ms_A ms.length ms_c),none,some (.bool true),some (.bool false)] (dlR 5) [72,73,74,75,76] [0,1,2,3,4] [] (by kernel_rfl) (by rw [hz];decide) ?_ (en rfl ?_ (en rfl ?_ (en rfl ?_ (en rfl ?_ (en rfl ?_ .nil))))) ?_
    ·exact fun _ h=>(fun h=>by cases h)
    ·exact fun Lk ak ww H _ _ hN=>wp_move rfl (ev (H.f.g rfl s11)) (hN _ _ H.k rfl (hXb.q rfl H.x))
    ·exact fun Lk ak ww H _ _ hN=>wp_move rfl (ev (H.f.g rfl s1)) (hN _ _ H.k rfl (hXb.q rfl H.x))
    ·intro Lk ak ww H _ _ hN
     have x0:=H.x
     simp [go_sem,(gS ak 73 (H.d 1 rfl rfl))]
     have hBi:=H.k.below0 hB
     refine (toModeS_c ms_A ms ms_c ww (by have:=dec_f q7;have:=dec_f q18;have:=dec_f q29;(try unfold regionLen at *);omega) (hs_ms.below hBi)).mono ?_
     rintro x wx ⟨_,rfl,⟨A10,c10,rfl,f0⟩,hb⟩
     have f10:=New.mono (show New 153 2 modeC wx ww.heap.size (.slice A10 (ms).length c10) ms from ⟨_,_,rfl,f0⟩) H.k.size
     exact (hN _ _ (H.k.call hb) trivial (fun _=>by rw [put_get_self (H.f.lt (by rw [hz];decide))];exact ⟨A10,c10,rfl,f10⟩))
    ·intro Lk ak ww H _ _ hN
     have x0:=H.x
     obtain ⟨A10,c10,ee2,f10⟩:=x0 (H.r 2 rfl)
     simp [go_sem,(gS ak 72 (H.d 0 rfl rfl)),ee2]
     refine (eqModeS_t A6 A10 ms c6 c10 ww (by have:=dec_f q7;have:=dec_f q18;have:=dec_f q29;(try unfold regionLen at *);omega) ((N6.below H.k.toBelow leR).out modeC_len) (f10.out modeC_len)).mono ?_
     rintro x wx ⟨rfl,hb⟩
     exact (hN _ _ (H.k.call hb) rfl (hXb.b rfl hb H.x))
    ·exact fun Lk ak ww H _ _ hN=>wp_not rfl (ev (H.d 3 rfl rfl)) (hN _ _ H.k rfl (hXb.q rfl H.x))
    intro L a58 w59 hL hF hK hV hX;have x0:=hX;replace hz:=hF.Z hz;replace hdf:=hF.E hdf;replace s1:=hF.G s1;replace s3:=hF.G s3;replace s5:=hF.G s5;replace s9:=hF.G s9;replace s8:=hF.G s8;replace s10:=hF.G s10;replace s11:=hF.G s11;replace s12:=hF.G s12;replace s14:=hF.G s14;replace s13:=hF.G s13;have s76:=gS a58 76 (hV 4 _ rfl);replace b3:=b3.k0 hK;replace b4:=b4.k0 hK;replace b42:=b42.k0 hK;replace b45:=b45.k0 hK;replace b50:=b50.k0 hK;replace b53:=b53.k0 hK;replace N4:=N4.below hK.toBelow leR;replace N5:=N5.below hK.toBelow leR;replace N6:=N6.below hK.toBelow leR;replace N7:=N7.below hK.toBelow leR;replace N8:=N8.below hK.toBelow leR;replace hZ:=Nat.le_trans hZ hK.size;replace hB:=hK.below0 hB;clear hF hK hV hL x0 hXb s71;refine th_n ?_
    refine wp_cond_false (ev s76) ?_
    refine wp_skip ?_;refine th_n ?_;refine wp_seq ?_;refine wp_seq ?_
    have hXb:StaysX [79] (fun L aa ww=>(L 2=true→(fun ww v=>∃ m11,v=.agg #[.slice m11.A p.length m11.c]∧RegionNew ww w59.heap.size p m11) ww (aa.tmps[79]?.getD undef))):=by
     intro L aa ww w' kk vv hkk hb hX
     have x0:=hX
     exact (fun h=>by rw [put_ne' (hkk 79 (by simp))];obtain ⟨m11',e,f11'⟩:=x0 h;exact ⟨m11',e,f11'.below hb leR⟩)
    refine wp_regK hXb (by kernel_rfl) [77,78,79,80,81] [some (.agg #[.slice m7.A p.length m7.c]),some (.agg #[.slice p_a.A p.length p_a.c]),none,some (.bool true),some (.bool false)] ([[],[],[1],[0,1,2],[0,1,2,3]]) [77,78,79,80,81] [0,1,2,3,4] [] (by kernel_rfl) (by rw [hz];decide) ?_ (en rfl ?_ (en rfl ?_ (en rfl ?_ (en rfl ?_ (en rfl ?_ .nil))))) ?_
    ·exact fun _ h=>(fun h=>by cases h)
    ·intro Lk ak ww H _ _ hN
     simp [go_sem,H.f.g rfl s12,(b50.k0 H.k).cell]
     exact (hN _ _ H.k rfl (hXb.q rfl H.x))
    ·intro Lk ak ww H _ _ hN
     simp [go_sem,H.f.g rfl s5,(b4.k0 H.k).cell]
     exact (hN _ _ H.k rfl (hXb.q rfl H.x))
    ·intro Lk ak ww H _ _ hN
     have x0:=H.x
     simp [go_sem,(gS ak 78 (H.d 1 rfl rfl))]
     have hBi:=H.k.below0 hB
     refine (toRegion_c p p_a ww (by have:=dec_f q7;have:=dec_f q18;have:=dec_f q29;(try unfold regionLen at *);omega) ⟨(hs_p.halves.below hBi)⟩).mono ?_
     rintro x wx ⟨m11,rfl,f0,hb⟩
     have f11:=f0.mono H.k.size
     exact (hN _ _ (H.k.call hb) trivial (fun _=>by rw [put_get_self (H.f.lt (by rw [hz];decide))];exact ⟨m11,rfl,f11⟩))
    ·intro Lk ak ww H _ _ hN
     have x0:=H.x
     obtain ⟨m11,ee2,f11⟩:=x0 (H.r 2 rfl)
     simp [go_sem,(gS ak 77 (H.d 0 rfl rfl)),ee2]
     refine (eqRegion_t p m7 m11 ww (by have:=dec_f q7;have:=dec_f q18;have:=dec_f q29;(try unfold regionLen at *);omega) ⟨((N7.below H.k.toBelow leR).halves.out halfC_len)⟩ ⟨(f11.halves.out halfC_len)⟩).mono ?_
     rintro x wx ⟨rfl,hb⟩
     exact (hN _ _ (H.k.call hb) rfl (hXb.b rfl hb H.x))
    ·exact fun Lk ak ww H _ _ hN=>wp_not rfl (ev (H.d 3 rfl rfl)) (hN _ _ H.k rfl (hXb.q rfl H.x))
    intro L a60 w61 hL hF hK hV hX;have x0:=hX;replace hz:=hF.Z hz;replace hdf:=hF.E hdf;replace s1:=hF.G s1;replace s3:=hF.G s3;replace s5:=hF.G s5;replace s9:=hF.G s9;replace s8:=hF.G s8;replace s10:=hF.G s10;replace s11:=hF.G s11;replace s12:=hF.G s12;replace s14:=hF.G s14;replace s13:=hF.G s13;have s81:=gS a60 81 (hV 4 _ rfl);replace b3:=b3.k0 hK;replace b4:=b4.k0 hK;replace b42:=b42.k0 hK;replace b45:=b45.k0 hK;replace b50:=b50.k0 hK;replace b53:=b53.k0 hK;replace N4:=N4.below hK.toBelow leR;replace N5:=N5.below hK.toBelow leR;replace N6:=N6.below hK.toBelow leR;replace N7:=N7.below hK.toBelow leR;replace N8:=N8.below hK.toBelow leR;replace hZ:=Nat.le_trans hZ hK.size;replace hB:=hK.below0 hB;clear hF hK hV hL x0 hXb s76;refine th_n ?_
    refine wp_cond_false (ev s81) ?_
    refine wp_skip ?_;refine th_n ?_;refine wp_seq ?_
    refine wp_regJ (by kernel_rfl) [15] [some (.int .i64 1)] (dlR 1) [15] [0] [] (fun _ _ _=>True) (by kernel_rfl) (by rw [hz];decide) ?_ (en rfl ?_ .nil) ?_
    ·exact fun _ _=>trivial
    ·exact fun Lk ak ww H _ _ hN=>wp_assign rfl rfl (hN _ _ H.k rfl trivial)
    intro L a62 w63 hL hF hK hV hX;replace hz:=hF.Z hz;replace hdf:=hF.E hdf;replace s1:=hF.G s1;replace s3:=hF.G s3;replace s5:=hF.G s5;replace s9:=hF.G s9;replace s8:=hF.G s8;replace s10:=hF.G s10;replace s11:=hF.G s11;replace s12:=hF.G s12;replace s14:=hF.G s14;replace s13:=hF.G s13;have s15:=gS a62 15 (hV 0 _ rfl);replace b3:=b3.k0 hK;replace b4:=b4.k0 hK;replace b42:=b42.k0 hK;replace b45:=b45.k0 hK;replace b50:=b50.k0 hK;replace b53:=b53.k0 hK;replace N4:=N4.below hK.toBelow leR;replace N5:=N5.below hK.toBelow leR;replace N6:=N6.below hK.toBelow leR;replace N7:=N7.below hK.toBelow leR;replace N8:=N8.below hK.toBelow leR;replace hZ:=Nat.le_trans hZ hK.size;replace hB:=hK.below0 hB;clear hF hK hV hL hX s81;refine th_n ?_;refine wp_seq ?_
    have hm_r:roomLen r≤1048576:=(by have:=dec_f q7;have:=dec_f q18;have:=dec_f q29;(try unfold regionLen at *);omega)
    have hu_r:=hm_r
    unfold roomLen at hu_r
    have hm_ms:List.length ms≤1048576:=(by have:=dec_f q7;have:=dec_f q18;have:=dec_f q29;(try unfold regionLen at *);omega)
    have hm_p:List.length p≤1048576:=(by have:=dec_f q7;have:=dec_f q18;have:=dec_f q29;(try unfold regionLen at *);omega)
    have hXb:StaysX [15] (fun L aa ww=>(L 2=false→RoomNew ww w41.heap.size r m5)∧(L 3=false→aa.tmps[15]?.getD undef=.int .i64 1)):=by
     intro L aa ww w' kk vv hkk hb hX
     obtain ⟨x0,x1⟩:=hX
     exact ⟨(fun h=>(x0 h).below hb leR),(fun h=>(put_ne' (hkk 15 (by simp)) vv).trans (x1 h))⟩
    refine wp_regK hXb (by kernel_rfl) [82,83,84,15] [some (roomV r m5),some (.int .i64 1),some (.int .i64 (1+(r.map.length:Int)+(r.noise.length:Int)*3+(r.limits.length:Int)*3)),some (.int .i64 (1+(r.map.length:Int)+(r.noise.length:Int)*3+(r.limits.length:Int)*3))] (dlR 4) [82,83,84,15] [0,1,2,3] (blkLs [m5.map,m5.noise,m5.limits]) (by kernel_rfl) (by rw [hz];decide) ?_ (en rfl ?_ (en rfl ?_ (en rfl ?_ (en rfl ?_ .nil)))) ?_
    ·exact fun _ h=>⟨(fun _=>N5.below h.toBelow leR),(fun _=>s15)⟩
    ·intro Lk ak ww H _ _ hN
     simp [go_sem,H.f.g rfl s10,(b45.kp H.k (blkLs_nin (N5.neT b45 (by decide) (by decide)))).cell]
     exact (hN _ _ H.k rfl (hXb.q rfl H.x))
    ·intro Lk ak ww H _ _ hN
     obtain ⟨x0,x1⟩:=H.x
     exact wp_move rfl (ev (x1 (H.t 3 rfl))) (hN _ _ H.k rfl (hXb.q rfl H.x))
    ·intro Lk ak ww H _ _ hN
     obtain ⟨x0,x1⟩:=H.x
     simp [go_sem,(gS ak 82 (H.d 0 rfl rfl)),(gS ak 83 (H.d 1 rfl rfl))]
     refine (markRoom_g r m5 1 w41.heap.size ww (by omega) (by omega) (by omega) (x0 H.n)).mono ?_
     rintro x wx ⟨rfl,MM,hO⟩
     exact hN _ _ (H.k.trans2 hO.kp (fun m h=>.inl h)) rfl ⟨(fun h=>by simp [upd] at h),(fun h=>(put_ne' (by decide) _).trans (x1 h))⟩
    ·intro Lk ak ww H _ _ hN
     obtain ⟨x0,x1⟩:=H.x
     exact wp_assign rfl (ev (H.d 2 rfl rfl)) (hN _ _ H.k rfl ⟨(fun h=>(x0 h).below bR leR),(fun h=>by simp [upd] at h)⟩)
    intro L a64 w65 hL hF hK hV hX
    obtain ⟨x0,x1⟩:=hX
    replace hz:=hF.Z hz;replace hdf:=hF.E hdf;replace s1:=hF.G s1;replace s3:=hF.G s3;replace s5:=hF.G s5;replace s9:=hF.G s9;replace s8:=hF.G s8;replace s11:=hF.G s11;replace s12:=hF.G s12;replace s14:=hF.G s14;replace s13:=hF.G s13;have s15:=gS a64 15 (hV 3 _ rfl)
    replace b3:=b3.kp hK (blkLs_nin (N5.neT b3 (by decide) (by decide)))
    replace b4:=b4.kp hK (blkLs_nin (N5.neT b4 (by decide) (by decide)))
    replace b42:=b42.kp hK (blkLs_nin (N5.neT b42 (by decide) (by decide)))
    replace b50:=b50.kp hK (blkLs_nin (N5.neT b50 (by decide) (by decide)))
    replace b53:=b53.kp hK (blkLs_nin (N5.neT b53 (by decide) (by decide)))
    replace N4:=N4.far1 hK.only (BL4.apart BL5 (by omega))
    clear N5
    replace N6:=N6.far1 hK.only (BL6.apart BL5 (by omega))
    replace N7:=N7.far1 hK.only (BL7.apart BL5 (by omega))
    replace N8:=N8.far1 hK.only (BL8.apart BL5 (by omega))
    replace hZ:=Nat.le_trans hZ hK.size
    replace hB:=hK.below hB hB.size (blkLs_lo (BL5.lo (by omega)))
    clear hF hK hV hL x0 x1 hXb s10 b45
    have hneg66:decide (1+(r.map.length:Int)+(r.noise.length:Int)*3+(r.limits.length:Int)*3<0)=false:=decide_eq_false (by omega)
    refine th_n ?_;refine wp_seq ?_
    have hXb:StaysX [15] (fun L aa ww=>(L 2=false→New 153 2 modeC ww w44.heap.size (.slice A6 (ms).length c6) ms)∧(L 3=false→aa.tmps[15]?.getD undef=.int .i64 (1+(r.map.length:Int)+(r.noise.length:Int)*3+(r.limits.length:Int)*3))):=by
     intro L aa ww w' kk vv hkk hb hX
     obtain ⟨x0,x1⟩:=hX
     exact ⟨(fun h=>(x0 h).below hb leR),(fun h=>(put_ne' (hkk 15 (by simp)) vv).trans (x1 h))⟩
    refine wp_regK hXb (by kernel_rfl) [85,86,87,15] [some (.slice A6 ms.length c6),some (.int .i64 (1+(r.map.length:Int)+(r.noise.length:Int)*3+(r.limits.length:Int)*3)),some (.int .i64 (1+(r.map.length:Int)+(r.noise.length:Int)*3+(r.limits.length:Int)*3+(ms.length:Int)*2)),some (.int .i64 (1+(r.map.length:Int)+(r.noise.length:Int)*3+(r.limits.length:Int)*3+(ms.length:Int)*2))] (dlR 4) [85,86,87,15] [0,1,2,3] (blkLs [⟨A6,c6⟩]) (by kernel_rfl) (by rw [hz];decide) ?_ (en rfl ?_ (en rfl ?_ (en rfl ?_ (en rfl ?_ .nil)))) ?_
    ·exact fun _ h=>⟨(fun _=>N6.below h.toBelow leR),(fun _=>s15)⟩
    ·exact fun Lk ak ww H _ _ hN=>wp_move rfl (ev (H.f.g rfl s11)) (hN _ _ H.k rfl (hXb.q rfl H.x))
    ·intro Lk ak ww H _ _ hN
     obtain ⟨x0,x1⟩:=H.x
     exact wp_move rfl (ev (x1 (H.t 3 rfl))) (hN _ _ H.k rfl (hXb.q rfl H.x))
    ·intro Lk ak ww H _ _ hN
     obtain ⟨x0,x1⟩:=H.x
     simp [go_sem,(gS ak 85 (H.d 0 rfl rfl)),(gS ak 86 (H.d 1 rfl rfl))]
     refine (markModeS_g A6 ms.length c6 ms (1+(r.map.length:Int)+(r.noise.length:Int)*3+(r.limits.length:Int)*3) w44.heap.size ww rfl (by omega) (by omega) (by omega) (x0 H.n)).mono ?_
     rintro x wx ⟨rfl,MM,hO⟩
     exact hN _ _ (H.k.trans2 hO.kp (fun m h=>.inl h)) rfl ⟨(fun h=>by simp [upd] at h),(fun h=>(put_ne' (by decide) _).trans (x1 h))⟩
    ·intro Lk ak ww H _ _ hN
     obtain ⟨x0,x1⟩:=H.x
     exact wp_assign rfl (ev (H.d 2 rfl rfl)) (hN _ _ H.k rfl ⟨(fun h=>(x0 h).below bR leR),(fun h=>by simp [upd] at h)⟩)
    intro L a67 w68 hL hF hK hV hX
    obtain ⟨x0,x1⟩:=hX
    replace hz:=hF.Z hz;replace hdf:=hF.E hdf;replace s1:=hF.G s1;replace s3:=hF.G s3;replace s5:=hF.G s5;replace s9:=hF.G s9;replace s8:=hF.G s8;replace s12:=hF.G s12;replace s14:=hF.G s14;replace s13:=hF.G s13;have s15:=gS a67 15 (hV 3 _ rfl)
    replace b3:=b3.kp hK (blkLs_nin (N6.neL b3 (by decide)))
    replace b4:=b4.kp hK (blkLs_nin (N6.neL b4 (by decide)))
    replace b42:=b42.kp hK (blkLs_nin (N6.neL b42 (by decide)))
    replace b50:=b50.kp hK (blkLs_nin (N6.neL b50 (by decide)))
    replace b53:=b53.kp hK (blkLs_nin (N6.neL b53 (by decide)))
    replace N4:=N4.far1 hK.only (BL4.apart BL6 (by omega))
    clear N6
    replace N7:=N7.far1 hK.only (BL7.apart BL6 (by omega))
    replace N8:=N8.far1 hK.only (BL8.apart BL6 (by omega))
    replace hZ:=Nat.le_trans hZ hK.size
    replace hB:=hK.below hB hB.size (blkLs_lo (BL6.lo (by omega)))
    clear hF hK hV hL x0 x1 hXb s11
    have hneg69:decide (1+(r.map.length:Int)+(r.noise.length:Int)*3+(r.limits.length:Int)*3+(ms.length:Int)*2<0)=false:=decide_eq_false (by omega)
    refine th_n ?_;refine wp_seq ?_
    have hXb:StaysX [15] (fun L aa ww=>(L 2=false→RegionNew ww w47.heap.size p m7)∧(L 3=false→aa.tmps[15]?.getD undef=.int .i64 (1+(r.map.length:Int)+(r.noise.length:Int)*3+(r.limits.length:Int)*3+(ms.length:Int)*2))):=by
     intro L aa ww w' kk vv hkk hb hX
     obtain ⟨x0,x1⟩:=hX
     exact ⟨(fun h=>(x0 h).below hb leR),(fun h=>(put_ne' (hkk 15 (by simp)) vv).trans (x1 h))⟩
    refine wp_regK hXb (by kernel_rfl) [88,89,90,15] [some (.agg #[.slice m7.A p.length m7.c]),some (.int .i64 (1+(r.map.length:Int)+(r.noise.length:Int)*3+(r.limits.length:Int)*3+(ms.length:Int)*2)),some (.int .i64 (1+(r.map.length:Int)+(r.noise.length:Int)*3+(r.limits.length:Int)*3+(ms.length:Int)*2+(p.length:Int)*3)),some (.int .i64 (1+(r.map.length:Int)+(r.noise.length:Int)*3+(r.limits.length:Int)*3+(ms.length:Int)*2+(p.length:Int)*3))] (dlR 4) [88,89,90,15] [0,1,2,3] (blkLs [m7]) (by kernel_rfl) (by rw [hz];decide) ?_ (en rfl ?_ (en rfl ?_ (en rfl ?_ (en rfl ?_ .nil)))) ?_
    ·exact fun _ h=>⟨(fun _=>N7.below h.toBelow leR),(fun _=>s15)⟩
    ·intro Lk ak ww H _ _ hN
     simp [go_sem,H.f.g rfl s12,(b50.kp H.k (blkLs_nin (N7.neT b50 (by decide)))).cell]
     exact (hN _ _ H.k rfl (hXb.q rfl H.x))
    ·intro Lk ak ww H _ _ hN
     obtain ⟨x0,x1⟩:=H.x
     exact wp_move rfl (ev (x1 (H.t 3 rfl))) (hN _ _ H.k rfl (hXb.q rfl H.x))
    ·intro Lk ak ww H _ _ hN
     obtain ⟨x0,x1⟩:=H.x
     simp [go_sem,(gS ak 88 (H.d 0 rfl rfl)),(gS ak 89 (H.d 1 rfl rfl))]
     refine (markRegion_g p m7 (1+(r.map.length:Int)+(r.noise.length:Int)*3+(r.limits.length:Int)*3+(ms.length:Int)*2) w47.heap.size ww (by omega) (by omega) (by omega) (x0 H.n)).mono ?_
     rintro x wx ⟨rfl,MM,hO⟩
     exact hN _ _ (H.k.trans2 hO.kp (fun m h=>.inl h)) rfl ⟨(fun h=>by simp [upd] at h),(fun h=>(put_ne' (by decide) _).trans (x1 h))⟩
    ·intro Lk ak ww H _ _ hN
     obtain ⟨x0,x1⟩:=H.x
     exact wp_assign rfl (ev (H.d 2 rfl rfl)) (hN _ _ H.k rfl ⟨(fun h=>(x0 h).below bR leR),(fun h=>by simp [upd] at h)⟩)
    intro L a70 w71 hL hF hK hV hX
    obtain ⟨x0,x1⟩:=hX
    replace hz:=hF.Z hz;replace hdf:=hF.E hdf;replace s1:=hF.G s1;replace s3:=hF.G s3;replace s5:=hF.G s5;replace s9:=hF.G s9;replace s8:=hF.G s8;replace s14:=hF.G s14;replace s13:=hF.G s13;have s15:=gS a70 15 (hV 3 _ rfl)
    replace b3:=b3.kp hK (blkLs_nin (N7.neT b3 (by decide)))
    replace b4:=b4.kp hK (blkLs_nin (N7.neT b4 (by decide)))
    replace b42:=b42.kp hK (blkLs_nin (N7.neT b42 (by decide)))
    replace b53:=b53.kp hK (blkLs_nin (N7.neT b53 (by decide)))
    replace N4:=N4.far1 hK.only (BL4.apart BL7 (by omega))
    clear N7
    replace N8:=N8.far1 hK.only (BL8.apart BL7 (by omega))
    replace hZ:=Nat.le_trans hZ hK.size
    replace hB:=hK.below hB hB.size (blkLs_lo (BL7.lo (by omega)))
    clear hF hK hV hL x0 x1 hXb s12 b50
    have hneg72:decide (1+(r.map.length:Int)+(r.noise.length:Int)*3+(r.limits.length:Int)*3+(ms.length:Int)*2+(p.length:Int)*3<0)=false:=decide_eq_false (by omega)
    refine th_n ?_;refine wp_seq ?_;refine wp_seq ?_
    refine wp_regJ (by kernel_rfl) [91,92,93,94,95,96,97,98,99,100,101,102,103] [some (.int .i64 (1+(r.map.length:Int)+(r.noise.length:Int)*3+(r.limits.length:Int)*3+(ms.length:Int)*2+(p.length:Int)*3)),some (.bool false),some (.bool false),some (.agg #[.slice A8 ((pkR r ms p).length) c8]),some (.agg #[.slice A4 ((pkR r ms p).length) c4]),some (.bool true),some (.bool false),some (.bool false),some (.bool false),some (.bool (pkOk r ms p)),some (.bool (pkOk r ms p)),some (.bool false),some (.bool false)] (dlR 13) [91,92,93,94,95,96,97,98,99,100,101,102,103] [0,1,2,3,4,5,6,7,8,9,10,11,12] [] (fun _ _ _=>True) (by kernel_rfl) (by rw [hz];decide) ?_ (en rfl ?_ (en rfl ?_ (en rfl ?_ (eg ?_ (eg ?_ (eg ?_ (eg ?_ (en rfl ?_ (en rfl ?_ (eg ?_ (eg ?_ (eg ?_ (en rfl ?_ .nil))))))))))))) ?_
    ·exact fun _ _=>trivial
    ·exact fun Lk ak ww H _ _ hN=>wp_move rfl (ev (H.f.g rfl s15)) (hN _ _ H.k rfl trivial)
    ·exact fun Lk ak ww H _ _ hN=>wp_bin rfl (ev (H.d 0 rfl rfl)) rfl rfl rfl (hN _ _ H.k (congrArg Value.bool hneg72) trivial)
    ·exact fun Lk ak ww H _ _ hN=>wp_move rfl (ev (H.d 1 rfl rfl)) (hN _ _ H.k rfl trivial)
    ·intro Lk ak ww H _ _ hN
     refine wnt_y rfl rfl rfl (H.d 2 rfl rfl) ?_
     simp [go_sem,H.f.g rfl s13,(b53.k0 H.k).cell]
     exact (hN _ _ H.k rfl trivial)
    ·intro Lk ak ww H _ _ hN
     refine wnt_y rfl rfl rfl (H.d 2 rfl rfl) ?_
     simp [go_sem,H.f.g rfl s8,(b42.k0 H.k).cell]
     exact (hN _ _ H.k rfl trivial)
    ·intro Lk ak ww H _ _ hN
     refine wnt_y rfl rfl rfl (H.d 2 rfl rfl) ?_
     simp [go_sem,(gS ak 94 (H.d 3 rfl rfl)),(gS ak 95 (H.d 4 rfl rfl))]
     refine (eqRegion_t (pkR r ms p) ⟨A8,c8⟩ ⟨A4,c4⟩ ww (by have:=dec_f q7;have:=dec_f q18;have:=dec_f q29;(try unfold regionLen at *);omega) ⟨((N8.below H.k.toBelow leR).out halfC_len)⟩ ⟨((N4.below H.k.toBelow leR).out halfC_len)⟩).mono ?_
     rintro x wx ⟨rfl,hb⟩
     exact (hN _ _ (H.k.call hb) rfl trivial)
    ·intro Lk ak ww H _ _ hN
     refine wnt_y rfl rfl rfl (H.d 2 rfl rfl) ?_
     exact wp_not rfl (ev (H.d 5 rfl rfl)) (hN _ _ H.k rfl trivial)
    ·exact fun Lk ak ww H _ _ hN=>wp_pick rfl (ev (H.d 2 rfl rfl)) (fun h=>by cases h) (fun _=>(ev (H.d 6 rfl rfl))) (hN _ _ H.k rfl trivial)
    ·exact fun Lk ak ww H _ _ hN=>wp_move rfl (ev (H.d 7 rfl rfl)) (hN _ _ H.k rfl trivial)
    ·intro Lk ak ww H _ _ hN
     refine wnt_y rfl rfl rfl (H.d 8 rfl rfl) ?_
     exact wp_move rfl (ev (H.f.g rfl s14)) (hN _ _ H.k rfl trivial)
    ·intro Lk ak ww H _ _ hN
     refine wnt_y rfl rfl rfl (H.d 8 rfl rfl) ?_
     exact wp_move rfl (ev (H.f.g rfl s9)) (hN _ _ H.k rfl trivial)
    ·intro Lk ak ww H _ _ hN
     refine wnt_y rfl rfl rfl (H.d 8 rfl rfl) ?_
     simp [go_sem,(gS ak 100 (H.d 9 rfl rfl)),(gS ak 101 (H.d 10 rfl rfl))]
     exact (hN _ _ H.k rfl trivial)
    ·exact fun Lk ak ww H _ _ hN=>wp_pick rfl (ev (H.d 8 rfl rfl)) (fun h=>by cases h) (fun _=>(ev (H.d 11 rfl rfl))) (hN _ _ H.k rfl trivial)
    intro L a73 w74 hL hF hK hV hX;replace hz:=hF.Z hz;replace hdf:=hF.E hdf;replace s1:=hF.G s1;replace s3:=hF.G s3;replace s5:=hF.G s5;replace s9:=hF.G s9;replace s8:=hF.G s8;replace s13:=hF.G s13;have s103:=gS a73 103 (hV 12 _ rfl);replace b3:=b3.k0 hK;replace b4:=b4.k0 hK;replace b42:=b42.k0 hK;replace b53:=b53.k0 hK;replace N4:=N4.below hK.toBelow leR;replace N8:=N8.below hK.toBelow leR;replace hZ:=Nat.le_trans hZ hK.size;replace hB:=hK.below0 hB;clear hF hK hV hL hX s14 s15;refine th_n ?_
    refine wp_cond_false (ev s103) ?_
    refine wp_skip ?_;refine th_n ?_;refine wp_seq ?_
    refine wp_regJ (by kernel_rfl) [16] [some (.int .i64 1)] (dlR 1) [16] [0] [] (fun _ _ _=>True) (by kernel_rfl) (by rw [hz];decide) ?_ (en rfl ?_ .nil) ?_
    ·exact fun _ _=>trivial
    ·exact fun Lk ak ww H _ _ hN=>wp_assign rfl rfl (hN _ _ H.k rfl trivial)
    intro L a75 w76 hL hF hK hV hX;replace hz:=hF.Z hz;replace hdf:=hF.E hdf;replace s1:=hF.G s1;replace s3:=hF.G s3;replace s5:=hF.G s5;replace s9:=hF.G s9;replace s8:=hF.G s8;replace s13:=hF.G s13;have s16:=gS a75 16 (hV 0 _ rfl);replace b3:=b3.k0 hK;replace b4:=b4.k0 hK;replace b42:=b42.k0 hK;replace b53:=b53.k0 hK;replace N4:=N4.below hK.toBelow leR;replace N8:=N8.below hK.toBelow leR;replace hZ:=Nat.le_trans hZ hK.size;replace hB:=hK.below0 hB;clear hF hK hV hL hX s103;refine th_n ?_;refine wp_seq ?_
    have hXb:StaysX [16] (fun L aa ww=>(L 2=false→New 111 3 halfC ww w49.heap.size (.slice A8 (pkR r ms p).length c8) (pkR r ms p))∧(L 2=true→New 111 3 halfC ww w49.heap.size (.slice A8 (pkR r ms p).length c8) (markHalfs 1 (pkR r ms p).length))∧(L 3=false→aa.tmps[16]?.getD undef=.int .i64 1)):=by
     intro L aa ww w' kk vv hkk hb hX
     obtain ⟨x0,x1,x2⟩:=hX
     exact ⟨(fun h=>(x0 h).below hb leR),(fun h=>(x1 h).below hb leR),(fun h=>(put_ne' (hkk 16 (by simp)) vv).trans (x2 h))⟩
    refine wp_regK hXb (by kernel_rfl) [104,105,106,16] [some (.agg #[.slice A8 ((pkR r ms p).length) c8]),some (.int .i64 1),some (.int .i64 (1+(((pkR r ms p).length:Nat):Int)*3)),some (.int .i64 (1+(((pkR r ms p).length:Nat):Int)*3))] (dlR 4) [104,105,106,16] [0,1,2,3] (blkLs [⟨A8,c8⟩]) (by kernel_rfl) (by rw [hz];decide) ?_ (en rfl ?_ (en rfl ?_ (en rfl ?_ (en rfl ?_ .nil)))) ?_
    ·exact fun _ h=>⟨(fun _=>N8.below h.toBelow leR),(fun h=>by cases h),(fun _=>s16)⟩
    ·intro Lk ak ww H _ _ hN
     simp [go_sem,H.f.g rfl s13,(b53.kp H.k (blkLs_nin (N8.neL b53 (by decide)))).cell]
     exact (hN _ _ H.k rfl (hXb.q rfl H.x))
    ·intro Lk ak ww H _ _ hN
     obtain ⟨x0,x1,x2⟩:=H.x
     exact wp_move rfl (ev (x2 (H.t 3 rfl))) (hN _ _ H.k rfl (hXb.q rfl H.x))
    ·intro Lk ak ww H _ _ hN
     obtain ⟨x0,x1,x2⟩:=H.x
     simp [go_sem,(gS ak 104 (H.d 0 rfl rfl)),(gS ak 105 (H.d 1 rfl rfl))]
     refine (markRegion_g (pkR r ms p) ⟨A8,c8⟩ 1 w49.heap.size ww (by omega) (by omega) (by omega) ⟨x0 H.n⟩).mono ?_
     rintro x wx ⟨rfl,MM,hO⟩
     exact hN _ _ (H.k.trans2 hO.kp (fun m h=>.inl h)) rfl ⟨(fun h=>by simp [upd] at h),(fun _=>MM),(fun h=>(put_ne' (by decide) _).trans (x2 h))⟩
    ·intro Lk ak ww H _ _ hN
     obtain ⟨x0,x1,x2⟩:=H.x
     exact wp_assign rfl (ev (H.d 2 rfl rfl)) (hN _ _ H.k rfl ⟨(fun h=>(x0 h).below bR leR),(fun h=>(x1 h).below bR leR),(fun h=>by simp [upd] at h)⟩)
    intro L a77 w78 hL hF hK hV hX
    obtain ⟨x0,x1,x2⟩:=hX
    replace hz:=hF.Z hz;replace hdf:=hF.E hdf;replace s1:=hF.G s1;replace s3:=hF.G s3;replace s5:=hF.G s5;replace s9:=hF.G s9;replace s8:=hF.G s8;replace s13:=hF.G s13;have s16:=gS a77 16 (hV 3 _ rfl)
    replace b3:=b3.kp hK (blkLs_nin (N8.neL b3 (by decide)))
    replace b4:=b4.kp hK (blkLs_nin (N8.neL b4 (by decide)))
    replace b42:=b42.kp hK (blkLs_nin (N8.neL b42 (by decide)))
    replace b53:=b53.kp hK (blkLs_nin (N8.neL b53 (by decide)))
    replace N4:=N4.far1 hK.only (BL4.apart BL8 (by omega))
    clear N8
    have N8:=x1 (hL 2 (by decide))
    replace hZ:=Nat.le_trans hZ hK.size
    replace hB:=hK.below hB hB.size (blkLs_lo (BL8.lo (by omega)))
    clear hF hK hV hL x0 x1 x2 hXb
    have hneg79:decide (1+(((pkR r ms p).length:Nat):Int)*3<0)=false:=decide_eq_false (by omega)
    refine th_n ?_;refine wp_seq ?_
    refine wp_regJ (by kernel_rfl) [17] [some (.int .i64 1)] (dlR 1) [17] [0] [] (fun _ _ _=>True) (by kernel_rfl) (by rw [hz];decide) ?_ (en rfl ?_ .nil) ?_
    ·exact fun _ _=>trivial
    ·exact fun Lk ak ww H _ _ hN=>wp_assign rfl rfl (hN _ _ H.k rfl trivial)
    intro L a80 w81 hL hF hK hV hX;replace hz:=hF.Z hz;replace hdf:=hF.E hdf;replace s1:=hF.G s1;replace s3:=hF.G s3;replace s5:=hF.G s5;replace s9:=hF.G s9;replace s8:=hF.G s8;replace s13:=hF.G s13;replace s16:=hF.G s16;have s17:=gS a80 17 (hV 0 _ rfl);replace b3:=b3.k0 hK;replace b4:=b4.k0 hK;replace b42:=b42.k0 hK;replace b53:=b53.k0 hK;replace N4:=N4.below hK.toBelow leR;replace N8:=N8.below hK.toBelow leR;replace hZ:=Nat.le_trans hZ hK.size;replace hB:=hK.below0 hB;clear hF hK hV hL hX;refine th_n ?_;refine wp_seq ?_
    have hXb:StaysX [17] (fun L aa ww=>(L 3=false→aa.tmps[17]?.getD undef=.int .i64 1)):=by
     intro L aa ww w' kk vv hkk hb hX
     have x0:=hX
     exact (fun h=>(put_ne' (hkk 17 (by simp)) vv).trans (x0 h))
    refine wp_regK hXb (by kernel_rfl) [107,108,109,17] [some (.agg #[.slice A8 ((pkR r ms p).length) c8]),some (.int .i64 1),some (.int .i64 (1+(((pkR r ms p).length:Nat):Int)*3)),some (.int .i64 (1+(((pkR r ms p).length:Nat):Int)*3))] (dlR 4) [107,108,109,17] [0,1,2,3] [] (by kernel_rfl) (by rw [hz];decide) ?_ (en rfl ?_ (en rfl ?_ (en rfl ?_ (en rfl ?_ .nil)))) ?_
    ·exact fun _ h=>(fun _=>s17)
    ·intro Lk ak ww H _ _ hN
     simp [go_sem,H.f.g rfl s13,(b53.k0 H.k).cell]
     exact (hN _ _ H.k rfl (hXb Lk ak ww _ (some 107) _ (by simp) bR H.x))
    ·intro Lk ak ww H _ _ hN
     have x0:=H.x
     exact wp_move rfl (ev (x0 (H.t 3 rfl))) (hN _ _ H.k rfl (hXb Lk ak ww _ (some 108) _ (by simp) bR H.x))
    ·intro Lk ak ww H _ _ hN
     simp [go_sem,(gS ak 107 (H.d 0 rfl rfl)),(gS ak 108 (H.d 1 rfl rfl))]
     refine (heldRegion_c (pkR r ms p).length ⟨A8,c8⟩ 1 ww (by omega) (by omega) (by omega) ((N8.below H.k.toBelow leR).out halfC_len)).mono ?_
     rintro x wx ⟨rfl,hb⟩
     exact (hN _ _ (H.k.call hb) rfl (hXb Lk ak ww _ (some 109) _ (by simp) hb H.x))
    ·intro Lk ak ww H _ _ hN
     have x0:=H.x
     exact wp_assign rfl (ev (H.d 2 rfl rfl)) (hN _ _ H.k rfl (fun h=>by simp [upd] at h))
    intro L a82 w83 hL hF hK hV hX;have x0:=hX;replace hz:=hF.Z hz;replace hdf:=hF.E hdf;replace s1:=hF.G s1;replace s3:=hF.G s3;replace s5:=hF.G s5;replace s9:=hF.G s9;replace s8:=hF.G s8;replace s13:=hF.G s13;replace s16:=hF.G s16;have s17:=gS a82 17 (hV 3 _ rfl);replace b3:=b3.k0 hK;replace b4:=b4.k0 hK;replace b42:=b42.k0 hK;replace b53:=b53.k0 hK;replace N4:=N4.below hK.toBelow leR;replace N8:=N8.below hK.toBelow leR;replace hZ:=Nat.le_trans hZ hK.size;replace hB:=hK.below0 hB;clear hF hK hV hL x0 hXb
    have hneg84:decide (1+(((pkR r ms p).length:Nat):Int)*3<0)=false:=decide_eq_false (by omega)
    refine th_n ?_;refine wp_seq ?_;refine wp_seq ?_
    refine wp_regJ (by kernel_rfl) [110,111] [some (.int .i64 (1+(((pkR r ms p).length:Nat):Int)*3)),some (.bool false)] (dlR 2) [110,111] [0,1] [] (fun _ _ _=>True) (by kernel_rfl) (by rw [hz];decide) ?_ (en rfl ?_ (en rfl ?_ .nil)) ?_
    ·exact fun _ _=>trivial
    ·exact fun Lk ak ww H _ _ hN=>wp_move rfl (ev (H.f.g rfl s17)) (hN _ _ H.k rfl trivial)
    ·exact fun Lk ak ww H _ _ hN=>wp_bin rfl (ev (H.d 0 rfl rfl)) rfl rfl rfl (hN _ _ H.k (congrArg Value.bool hneg84) trivial)
    intro L a85 w86 hL hF hK hV hX;replace hz:=hF.Z hz;replace hdf:=hF.E hdf;replace s1:=hF.G s1;replace s3:=hF.G s3;replace s5:=hF.G s5;replace s9:=hF.G s9;replace s8:=hF.G s8;replace s13:=hF.G s13;replace s16:=hF.G s16;replace s17:=hF.G s17;have s111:=gS a85 111 (hV 1 _ rfl);replace b3:=b3.k0 hK;replace b4:=b4.k0 hK;replace b42:=b42.k0 hK;replace b53:=b53.k0 hK;replace N4:=N4.below hK.toBelow leR;replace N8:=N8.below hK.toBelow leR;replace hZ:=Nat.le_trans hZ hK.size;replace hB:=hK.below0 hB;clear hF hK hV hL hX;refine th_n ?_
    refine wp_cond_false (ev s111) ?_
    refine wp_skip ?_;refine th_n ?_;refine wp_seq ?_;refine wp_seq ?_
    refine wp_regJ (by kernel_rfl) [112,113,114] [some (.int .i64 (1+(((pkR r ms p).length:Nat):Int)*3)),some (.int .i64 (1+(((pkR r ms p).length:Nat):Int)*3)),some (.bool false)] (dlR 3) [112,113,114] [0,1,2] [] (fun _ _ _=>True) (by kernel_rfl) (by rw [hz];decide) ?_ (en rfl ?_ (en rfl ?_ (en rfl ?_ .nil))) ?_
    ·exact fun _ _=>trivial
    ·exact fun Lk ak ww H _ _ hN=>wp_move rfl (ev (H.f.g rfl s17)) (hN _ _ H.k rfl trivial)
    ·exact fun Lk ak ww H _ _ hN=>wp_move rfl (ev (H.f.g rfl s16)) (hN _ _ H.k rfl trivial)
    ·intro Lk ak ww H _ _ hN
     simp [go_sem,(gS ak 112 (H.d 0 rfl rfl)),(gS ak 113 (H.d 1 rfl rfl))]
     exact (hN _ _ H.k rfl trivial)
    intro L a87 w88 hL hF hK hV hX;replace hz:=hF.Z hz;replace hdf:=hF.E hdf;replace s1:=hF.G s1;replace s3:=hF.G s3;replace s5:=hF.G s5;replace s9:=hF.G s9;replace s8:=hF.G s8;replace s13:=hF.G s13;replace s16:=hF.G s16;have s114:=gS a87 114 (hV 2 _ rfl);replace b3:=b3.k0 hK;replace b4:=b4.k0 hK;replace b42:=b42.k0 hK;replace b53:=b53.k0 hK;replace N4:=N4.below hK.toBelow leR;replace N8:=N8.below hK.toBelow leR;replace hZ:=Nat.le_trans hZ hK.size;replace hB:=hK.below0 hB;clear hF hK hV hL hX s17 s111;refine th_n ?_
    refine wp_cond_false (ev s114) ?_
    refine wp_skip ?_;refine th_n ?_;refine wp_seq ?_
    have hXb:StaysX [18,115,117,119,121,122,123] (fun L aa ww=>(L 1=true→(fun ww v=>∃ m12,v=roomV r m12∧RoomNew ww w88.heap.size r m12) ww (aa.tmps[117]?.getD undef))∧(L 3=true→(fun ww v=>∃ A13 c13,v=.slice A13 ms.length c13∧New 153 2 modeC ww w88.heap.size (.slice A13 (ms).length c13) ms) ww (aa.tmps[119]?.getD undef))∧(L 5=true→(fun ww v=>∃ m14,v=.agg #[.slice m14.A p.length m14.c]∧RegionNew ww w88.heap.size p m14) ww (aa.tmps[121]?.getD undef))∧(L 6=true→(fun ww v=>∃ A15 c15,v=.tuple #[.agg #[.slice A15 ((pkR r ms p).length) c15],.bool (pkOk r ms p)]∧New 111 3 halfC ww w88.heap.size (.slice A15 (pkR r ms p).length c15) (pkR r ms p)) ww (aa.tmps[122]?.getD undef))∧(L 7=true→(fun ww v=>∃ A15 c15,v=.tuple #[.agg #[.slice A15 ((pkR r ms p).length) c15],.bool (pkOk r ms p)]∧New 111 3 halfC ww w88.heap.size (.slice A15 (pkR r ms p).length c15) (pkR r ms p)) ww (aa.tmps[115]?.getD undef))∧(L 8=true→(fun ww v=>∃ A15 c15,v=.agg #[.slice A15 ((pkR r ms p).length) c15]∧New 111 3 halfC ww w88.heap.size (.slice A15 (pkR r ms p).length c15) (pkR r ms p)) ww (aa.tmps[123]?.getD undef))∧(L 10=true→BoxX w88 aa ww 18 37 [.slice none 0 0] (L 11) (fun ww vs=>∃ A15 c15,vs=[.slice A15 ((pkR r ms p).length) c15]∧New 111 3 halfC ww w88.heap.size (.slice A15 (pkR r ms p).length c15) (pkR r ms p)))):=by
     intro L aa ww w' kk vv hkk hb hX
     obtain ⟨x0,x1,x2,x3,x4,x5,x6⟩:=hX
     exact ⟨(fun h=>by rw [put_ne' (hkk 117 (by simp))];obtain ⟨m12',e,f12'⟩:=x0 h;exact ⟨m12',e,f12'.below hb leR⟩),(fun h=>by rw [put_ne' (hkk 119 (by simp))];obtain ⟨A13',c13',e,f13'⟩:=x1 h;exact ⟨A13',c13',e,f13'.below hb leR⟩),(fun h=>by rw [put_ne' (hkk 121 (by simp))];obtain ⟨m14',e,f14'⟩:=x2 h;exact ⟨m14',e,f14'.below hb leR⟩),(fun h=>by rw [put_ne' (hkk 122 (by simp))];obtain ⟨A15',c15',e,f15'⟩:=x3 h;exact ⟨A15',c15',e,f15'.below hb leR⟩),(fun h=>by rw [put_ne' (hkk 115 (by simp))];obtain ⟨A15',c15',e,f15'⟩:=x4 h;exact ⟨A15',c15',e,f15'.below hb leR⟩),(fun h=>by rw [put_ne' (hkk 123 (by simp))];obtain ⟨A15',c15',e,f15'⟩:=x5 h;exact ⟨A15',c15',e,f15'.below hb leR⟩),(fun h=>((x6 h).bel hb (fun _ ⟨A15',c15',e,f15'⟩=>⟨A15',c15',e,f15'.below hb leR⟩)).put (hkk 18 (by simp)) _)⟩
    refine wp_regK hXb (by kernel_rfl) [116,117,118,119,120,121,122,115,123,124,18,0,19] [some (roomV r r_a),none,some (.slice ms_A ms.length ms_c),none,some (.agg #[.slice p_a.A p.length p_a.c]),none,none,none,none,some (.bool (pkOk r ms p)),none,none,some (.bool (pkOk r ms p))] ([[],[0],[],[0,1,2],[],[0,1,2,3,4],[0,1,2,3,4,5],[0,1,2,3,4,5,6],[0,1,2,3,4,5,6,7],[0,1,2,3,4,5,6,7],[],[0,1,2,3,4,5,6,7,8,10],[0,1,2,3,4,5,6,7,8,9,10,11]]) [116,117,118,119,120,121,122,115,123,124,18,19] [0,1,2,3,4,5,6,7,8,9,10,11,12] [] (by kernel_rfl) (by rw [hz];decide) ?_ (en rfl ?_ (en rfl ?_ (en rfl ?_ (en rfl ?_ (en rfl ?_ (en rfl ?_ (en rfl ?_ (en rfl ?_ (en rfl ?_ (en rfl ?_ (en rfl ?_ (en rfl ?_ (en rfl ?_ .nil))))))))))))) ?_
    ·exact fun _ h=>⟨(fun h=>by cases h),(fun h=>by cases h),(fun h=>by cases h),(fun h=>by cases h),(fun h=>by cases h),(fun h=>by cases h),(fun h=>by cases h)⟩
    ·intro Lk ak ww H _ _ hN
     simp [go_sem,H.f.g rfl s3,(b3.k0 H.k).cell]
     exact (hN _ _ H.k rfl (hXb.q rfl H.x))
    ·intro Lk ak ww H _ _ hN
     obtain ⟨x0,x1,x2,x3,x4,x5,x6⟩:=H.x
     simp [go_sem,(gS ak 116 (H.d 0 rfl rfl))]
     have hBi:=H.k.below0 hB
     refine (toRoom_c r r_a ww (by have:=dec_f q7;have:=dec_f q18;have:=dec_f q29;(try unfold regionLen at *);omega) (hs_r.below hBi)).mono ?_
     rintro x wx ⟨m12,rfl,f0,hb⟩
     have f12:=f0.mono H.k.size
     exact (hN _ _ (H.k.call hb) trivial ⟨(fun _=>by rw [put_get_self (H.f.lt (by rw [hz];decide))];exact ⟨m12,rfl,f12⟩),(fun h=>by rw [put_ne' (by decide)];obtain ⟨A13',c13',e,f13'⟩:=x1 h;exact ⟨A13',c13',e,f13'.below hb leR⟩),(fun h=>by rw [put_ne' (by decide)];obtain ⟨m14',e,f14'⟩:=x2 h;exact ⟨m14',e,f14'.below hb leR⟩),(fun h=>by rw [put_ne' (by decide)];obtain ⟨A15',c15',e,f15'⟩:=x3 h;exact ⟨A15',c15',e,f15'.below hb leR⟩),(fun h=>by rw [put_ne' (by decide)];obtain ⟨A15',c15',e,f15'⟩:=x4 h;exact ⟨A15',c15',e,f15'.below hb leR⟩),(fun h=>by rw [put_ne' (by decide)];obtain ⟨A15',c15',e,f15'⟩:=x5 h;exact ⟨A15',c15',e,f15'.below hb leR⟩),(fun h=>((x6 h).bel hb (fun _ ⟨A15',c15',e,f15'⟩=>⟨A15',c15',e,f15'.below hb leR⟩)).put (by decide) _)⟩)
    ·exact fun Lk ak ww H _ _ hN=>wp_move rfl (ev (H.f.g rfl s1)) (hN _ _ H.k rfl (hXb.q rfl H.x))
    ·intro Lk ak ww H _ _ hN
     obtain ⟨x0,x1,x2,x3,x4,x5,x6⟩:=H.x
     simp [go_sem,(gS ak 118 (H.d 2 rfl rfl))]
     have hBi:=H.k.below0 hB
     refine (toModeS_c ms_A ms ms_c ww (by have:=dec_f q7;have:=dec_f q18;have:=dec_f q29;(try unfold regionLen at *);omega) (hs_ms.below hBi)).mono ?_
     rintro x wx ⟨_,rfl,⟨A13,c13,rfl,f0⟩,hb⟩
     have f13:=New.mono (show New 153 2 modeC wx ww.heap.size (.slice A13 (ms).length c13) ms from ⟨_,_,rfl,f0⟩) H.k.size
     exact (hN _ _ (H.k.call hb) trivial ⟨(fun h=>by rw [put_ne' (by decide)];obtain ⟨m12',e,f12'⟩:=x0 h;exact ⟨m12',e,f12'.below hb leR⟩),(fun _=>by rw [put_get_self (H.f.lt (by rw [hz];decide))];exact ⟨A13,c13,rfl,f13⟩),(fun h=>by rw [put_ne' (by decide)];obtain ⟨m14',e,f14'⟩:=x2 h;exact ⟨m14',e,f14'.below hb leR⟩),(fun h=>by rw [put_ne' (by decide)];obtain ⟨A15',c15',e,f15'⟩:=x3 h;exact ⟨A15',c15',e,f15'.below hb leR⟩),(fun h=>by rw [put_ne' (by decide)];obtain ⟨A15',c15',e,f15'⟩:=x4 h;exact ⟨A15',c15',e,f15'.below hb leR⟩),(fun h=>by rw [put_ne' (by decide)];obtain ⟨A15',c15',e,f15'⟩:=x5 h;exact ⟨A15',c15',e,f15'.below hb leR⟩),(fun h=>((x6 h).bel hb (fun _ ⟨A15',c15',e,f15'⟩=>⟨A15',c15',e,f15'.below hb leR⟩)).put (by decide) _)⟩)
    ·intro Lk ak ww H _ _ hN
     simp [go_sem,H.f.g rfl s5,(b4.k0 H.k).cell]
     exact (hN _ _ H.k rfl (hXb.q rfl H.x))
    ·intro Lk ak ww H _ _ hN
     obtain ⟨x0,x1,x2,x3,x4,x5,x6⟩:=H.x
     simp [go_sem,(gS ak 120 (H.d 4 rfl rfl))]
     have hBi:=H.k.below0 hB
     refine (toRegion_c p p_a ww (by have:=dec_f q7;have:=dec_f q18;have:=dec_f q29;(try unfold regionLen at *);omega) ⟨(hs_p.halves.below hBi)⟩).mono ?_
     rintro x wx ⟨m14,rfl,f0,hb⟩
     have f14:=f0.mono H.k.size
     exact (hN _ _ (H.k.call hb) trivial ⟨(fun h=>by rw [put_ne' (by decide)];obtain ⟨m12',e,f12'⟩:=x0 h;exact ⟨m12',e,f12'.below hb leR⟩),(fun h=>by rw [put_ne' (by decide)];obtain ⟨A13',c13',e,f13'⟩:=x1 h;exact ⟨A13',c13',e,f13'.below hb leR⟩),(fun _=>by rw [put_get_self (H.f.lt (by rw [hz];decide))];exact ⟨m14,rfl,f14⟩),(fun h=>by rw [put_ne' (by decide)];obtain ⟨A15',c15',e,f15'⟩:=x3 h;exact ⟨A15',c15',e,f15'.below hb leR⟩),(fun h=>by rw [put_ne' (by decide)];obtain ⟨A15',c15',e,f15'⟩:=x4 h;exact ⟨A15',c15',e,f15'.below hb leR⟩),(fun h=>by rw [put_ne' (by decide)];obtain ⟨A15',c15',e,f15'⟩:=x5 h;exact ⟨A15',c15',e,f15'.below hb leR⟩),(fun h=>((x6 h).bel hb (fun _ ⟨A15',c15',e,f15'⟩=>⟨A15',c15',e,f15'.below hb leR⟩)).put (by decide) _)⟩)
    ·intro Lk ak ww H _ _ hN
     obtain ⟨x0,x1,x2,x3,x4,x5,x6⟩:=H.x
     obtain ⟨m12,ee1,f12⟩:=x0 (H.r 1 rfl)
     obtain ⟨A13,c13,ee3,f13⟩:=x1 (H.r 3 rfl)
     obtain ⟨m14,ee5,f14⟩:=x2 (H.r 5 rfl)
     simp [go_sem,ee1,ee3,ee5]
     refine (iPlant_c r ms p m12 ⟨A13,c13⟩ m14 ww (by have:=dec_f q7;have:=dec_f q18;have:=dec_f q29;(try unfold regionLen at *);omega) hin_r hin_ms f12.sl f12.nil (by have:=dec_f q7;have:=dec_f q18;have:=dec_f q29;(try unfold regionLen at *);omega) hin_p.halves (by have:=dec_f q7;have:=dec_f q18;have:=dec_f q29;(try unfold regionLen at *);omega) (f13.out modeC_len) (f14.halves.out halfC_len) f14.halves.nilcap).mono ?_
     rintro x wx ⟨_,rfl,⟨A15,c15,rfl,f0⟩,hb⟩
     have f15:=New.mono (show New 111 3 halfC wx ww.heap.size (.slice A15 (pkR r ms p).length c15) (pkR r ms p) from ⟨_,_,rfl,f0⟩) H.k.size
     exact (hN _ _ (H.k.call hb) trivial ⟨(fun h=>by rw [put_ne' (by decide)];obtain ⟨m12',e,f12'⟩:=x0 h;exact ⟨m12',e,f12'.below hb leR⟩),(fun h=>by rw [put_ne' (by decide)];obtain ⟨A13',c13',e,f13'⟩:=x1 h;exact ⟨A13',c13',e,f13'.below hb leR⟩),(fun h=>by rw [put_ne' (by decide)];obtain ⟨m14',e,f14'⟩:=x2 h;exact ⟨m14',e,f14'.below hb leR⟩),(fun _=>by rw [put_get_self (H.f.lt (by rw [hz];decide))];exact ⟨A15,c15,rfl,f15⟩),(fun h=>by rw [put_ne' (by decide)];obtain ⟨A15',c15',e,f15'⟩:=x4 h;exact ⟨A15',c15',e,f15'.below hb leR⟩),(fun h=>by rw [put_ne' (by decide)];obtain ⟨A15',c15',e,f15'⟩:=x5 h;exact ⟨A15',c15',e,f15'.below hb leR⟩),(fun h=>((x6 h).bel hb (fun _ ⟨A15',c15',e,f15'⟩=>⟨A15',c15',e,f15'.below hb leR⟩)).put (by decide) _)⟩)
    ·intro Lk ak ww H _ _ hN
     obtain ⟨x0,x1,x2,x3,x4,x5,x6⟩:=H.x
     obtain ⟨A15,c15,ee6,f15⟩:=x3 (H.r 6 rfl)
     exact wp_move rfl (ev ee6) (hN _ _ H.k trivial ⟨(fun h=>by rw [put_ne' (by decide)];obtain ⟨m12',e,f12'⟩:=x0 h;exact ⟨m12',e,f12'.below bR leR⟩),(fun h=>by rw [put_ne' (by decide)];obtain ⟨A13',c13',e,f13'⟩:=x1 h;exact ⟨A13',c13',e,f13'.below bR leR⟩),(fun h=>by rw [put_ne' (by decide)];obtain ⟨m14',e,f14'⟩:=x2 h;exact ⟨m14',e,f14'.below bR leR⟩),(fun h=>by rw [put_ne' (by decide)];obtain ⟨A15',c15',e,f15'⟩:=x3 h;exact ⟨A15',c15',e,f15'.below bR leR⟩),(fun _=>by rw [put_get_self (H.f.lt (by rw [hz];decide))];exact ⟨A15,c15,rfl,f15⟩),(fun h=>by rw [put_ne' (by decide)];obtain ⟨A15',c15',e,f15'⟩:=x5 h;exact ⟨A15',c15',e,f15'.below bR leR⟩),(fun h=>((x6 h).bel bR (fun _ ⟨A15',c15',e,f15'⟩=>⟨A15',c15',e,f15'.below bR leR⟩)).put (by decide) _)⟩)
    ·intro Lk ak ww H _ _ hN
     obtain ⟨x0,x1,x2,x3,x4,x5,x6⟩:=H.x
     obtain ⟨A15,c15,ee7,f15⟩:=x4 (H.r 7 rfl)
     exact wp_extract rfl (ev ee7) rfl (hN _ _ H.k trivial ⟨(fun h=>by rw [put_ne' (by decide)];obtain ⟨m12',e,f12'⟩:=x0 h;exact ⟨m12',e,f12'.below bR leR⟩),(fun h=>by rw [put_ne' (by decide)];obtain ⟨A13',c13',e,f13'⟩:=x1 h;exact ⟨A13',c13',e,f13'.below bR leR⟩),(fun h=>by rw [put_ne' (by decide)];obtain ⟨m14',e,f14'⟩:=x2 h;exact ⟨m14',e,f14'.below bR leR⟩),(fun h=>by rw [put_ne' (by decide)];obtain ⟨A15',c15',e,f15'⟩:=x3 h;exact ⟨A15',c15',e,f15'.below bR leR⟩),(fun h=>by rw [put_ne' (by decide)];obtain ⟨A15',c15',e,f15'⟩:=x4 h;exact ⟨A15',c15',e,f15'.below bR leR⟩),(fun _=>by rw [put_get_self (H.f.lt (by rw [hz];decide))];exact ⟨A15,c15,rfl,f15⟩),(fun h=>((x6 h).bel bR (fun _ ⟨A15',c15',e,f15'⟩=>⟨A15',c15',e,f15'.below bR leR⟩)).put (by decide) _)⟩)
    ·intro Lk ak ww H _ _ hN
     obtain ⟨x0,x1,x2,x3,x4,x5,x6⟩:=H.x
     obtain ⟨A15,c15,ee7,f15⟩:=x4 (H.r 7 rfl)
     exact wp_extract rfl (ev ee7) rfl (hN _ _ H.k rfl (hXb.q rfl H.x))
    ·intro Lk ak ww H _ _ hN
     obtain ⟨x0,x1,x2,x3,x4,x5,x6⟩:=H.x
     simp [go_sem]
     exact hN _ _ (H.k.alloc _) trivial ⟨(fun h=>by rw [put_ne' (by decide)];obtain ⟨m12',e,f12'⟩:=x0 h;exact ⟨m12',e,f12'.below (below_al bR _) leR⟩),(fun h=>by rw [put_ne' (by decide)];obtain ⟨A13',c13',e,f13'⟩:=x1 h;exact ⟨A13',c13',e,f13'.below (below_al bR _) leR⟩),(fun h=>by rw [put_ne' (by decide)];obtain ⟨m14',e,f14'⟩:=x2 h;exact ⟨m14',e,f14'.below (below_al bR _) leR⟩),(fun h=>by rw [put_ne' (by decide)];obtain ⟨A15',c15',e,f15'⟩:=x3 h;exact ⟨A15',c15',e,f15'.below (below_al bR _) leR⟩),(fun h=>by rw [put_ne' (by decide)];obtain ⟨A15',c15',e,f15'⟩:=x4 h;exact ⟨A15',c15',e,f15'.below (below_al bR _) leR⟩),(fun h=>by rw [put_ne' (by decide)];obtain ⟨A15',c15',e,f15'⟩:=x5 h;exact ⟨A15',c15',e,f15'.below (below_al bR _) leR⟩),(fun _=>by rw [show upd Lk 10 11=false from H.t 11 rfl];exact BoxX.new (s:=18) (H.f.lt (by rw [hz];decide)) H.k.size [.slice none 0 0])⟩
    ·intro Lk ak ww H _ _ hN
     obtain ⟨x0,x1,x2,x3,x4,x5,x6⟩:=H.x
     obtain ⟨A15,c15,ee8,f15⟩:=x5 (H.r 8 rfl)
     obtain ⟨g,eg,hg,y,_⟩:=x6 (H.r 10 rfl)
     have HT:=y H.n
     simp [go_sem,ee8,eg,HT.cell,HT.frz]
     have f15:=f15.otherC (f15.typ HT (by decide)) [.slice A15 ((pkR r ms p).length) c15] 0
     exact hN undef _ (H.k.store (.inl hg) [.slice A15 ((pkR r ms p).length) c15] 0) trivial ⟨(fun h=>by obtain ⟨m12',e,f12'⟩:=x0 h;exact ⟨m12',e,f12'.otherT HT (by decide) (by decide) [.slice A15 ((pkR r ms p).length) c15] 0⟩),(fun h=>by obtain ⟨A13',c13',e,f13'⟩:=x1 h;exact ⟨A13',c13',e,f13'.otherC (f13'.typ HT (by decide)) [.slice A15 ((pkR r ms p).length) c15] 0⟩),(fun h=>by obtain ⟨m14',e,f14'⟩:=x2 h;exact ⟨m14',e,f14'.otherT HT (by decide) [.slice A15 ((pkR r ms p).length) c15] 0⟩),(fun h=>by obtain ⟨A15',c15',e,f15'⟩:=x3 h;exact ⟨A15',c15',e,f15'.otherC (f15'.typ HT (by decide)) [.slice A15 ((pkR r ms p).length) c15] 0⟩),(fun h=>by obtain ⟨A15',c15',e,f15'⟩:=x4 h;exact ⟨A15',c15',e,f15'.otherC (f15'.typ HT (by decide)) [.slice A15 ((pkR r ms p).length) c15] 0⟩),(fun h=>by obtain ⟨A15',c15',e,f15'⟩:=x5 h;exact ⟨A15',c15',e,f15'.otherC (f15'.typ HT (by decide)) [.slice A15 ((pkR r ms p).length) c15] 0⟩),(fun _=>BoxX.set eg hg HT (us:=[.slice A15 ((pkR r ms p).length) c15]) rfl ⟨A15,c15,rfl,f15⟩)⟩
    ·exact fun Lk ak ww H _ _ hN=>wp_assign rfl (ev (H.d 9 rfl rfl)) (hN _ _ H.k rfl (hXb.q rfl H.x))
    intro L a89 w90 hL hF hK hV hX
    obtain ⟨x0,x1,x2,x3,x4,x5,x6⟩:=hX
    replace hz:=hF.Z hz;replace hdf:=hF.E hdf;replace s9:=hF.G s9;replace s8:=hF.G s8;replace s13:=hF.G s13;replace s16:=hF.G s16;have s19:=gS a89 19 (hV 12 _ rfl);replace b42:=b42.k0 hK;replace b53:=b53.k0 hK
    obtain ⟨g91,s18,lg91,-,b91⟩:=x6 (hL 10 (by decide))
    obtain ⟨_,b91,A15,c15,rfl,N15⟩:=b91 (hL 11 (by decide))
    have i15:∀ p,A15=some p→p.block<w90.heap.size:=fun p hp=>(N15.blk p hp).2
    have ug91:=b91.lt
    replace N4:=N4.below hK.toBelow leR;replace N8:=N8.below hK.toBelow leR;have BL15:BlkL w88.heap.size w90.heap.size [⟨A15,c15⟩]:=N15.blkL;have zw88:=hZ;have zw90:=hK.size;replace hZ:=Nat.le_refl w90.heap.size;replace hB:=hK.below0 hB;clear hF hK hV hL x0 x1 x2 x3 x4 x5 x6 hXb s1 s3 s5 s114 b3 b4;refine th_n ?_;refine wp_seq ?_;refine wp_seq ?_
    refine wp_regJ (by kernel_rfl) [125,126,127,128,129,130,131,132,133] [some (.agg #[.slice A15 ((pkR r ms p).length) c15]),some (.agg #[.slice A4 ((pkR r ms p).length) c4]),some (.bool true),some (.bool false),some (.bool false),some (.bool (pkOk r ms p)),some (.bool (pkOk r ms p)),some (.bool false),some (.bool false)] (dlR 9) [125,126,127,128,129,130,131,132,133] [0,1,2,3,4,5,6,7,8] [] (fun _ _ _=>True) (by kernel_rfl) (by rw [hz];decide) ?_ (en rfl ?_ (en rfl ?_ (en rfl ?_ (en rfl ?_ (en rfl ?_ (eg ?_ (eg ?_ (eg ?_ (en rfl ?_ .nil))))))))) ?_
    ·exact fun _ _=>trivial
    ·intro Lk ak ww H _ _ hN
     simp [go_sem,H.f.g rfl s18,(b91.k0 H.k).cell]
     exact (hN _ _ H.k rfl trivial)
    ·intro Lk ak ww H _ _ hN
     simp [go_sem,H.f.g rfl s8,(b42.k0 H.k).cell]
     exact (hN _ _ H.k rfl trivial)
    ·intro Lk ak ww H _ _ hN
     simp [go_sem,(gS ak 125 (H.d 0 rfl rfl)),(gS ak 126 (H.d 1 rfl rfl))]
     refine (eqRegion_t (pkR r ms p) ⟨A15,c15⟩ ⟨A4,c4⟩ ww (by have:=dec_f q7;have:=dec_f q18;have:=dec_f q29;(try unfold regionLen at *);omega) ⟨((N15.below H.k.toBelow leR).out halfC_len)⟩ ⟨((N4.below H.k.toBelow leR).out halfC_len)⟩).mono ?_
     rintro x wx ⟨rfl,hb⟩
     exact (hN _ _ (H.k.call hb) rfl trivial)
    ·exact fun Lk ak ww H _ _ hN=>wp_not rfl (ev (H.d 2 rfl rfl)) (hN _ _ H.k rfl trivial)
    ·exact fun Lk ak ww H _ _ hN=>wp_move rfl (ev (H.d 3 rfl rfl)) (hN _ _ H.k rfl trivial)
    ·intro Lk ak ww H _ _ hN
     refine wnt_y rfl rfl rfl (H.d 4 rfl rfl) ?_
     exact wp_move rfl (ev (H.f.g rfl s19)) (hN _ _ H.k rfl trivial)
    ·intro Lk ak ww H _ _ hN
     refine wnt_y rfl rfl rfl (H.d 4 rfl rfl) ?_
     exact wp_move rfl (ev (H.f.g rfl s9)) (hN _ _ H.k rfl trivial)
    ·intro Lk ak ww H _ _ hN
     refine wnt_y rfl rfl rfl (H.d 4 rfl rfl) ?_
     simp [go_sem,(gS ak 130 (H.d 5 rfl rfl)),(gS ak 131 (H.d 6 rfl rfl))]
     exact (hN _ _ H.k rfl trivial)
    ·exact fun Lk ak ww H _ _ hN=>wp_pick rfl (ev (H.d 4 rfl rfl)) (fun h=>by cases h) (fun _=>(ev (H.d 7 rfl rfl))) (hN _ _ H.k rfl trivial)
    intro L a92 w93 hL hF hK hV hX;replace hz:=hF.Z hz;replace hdf:=hF.E hdf;replace s13:=hF.G s13;replace s16:=hF.G s16;have s133:=gS a92 133 (hV 8 _ rfl);replace b53:=b53.k0 hK;replace N8:=N8.below hK.toBelow leR;replace hZ:=Nat.le_trans hZ hK.size;replace hB:=hK.below0 hB;clear hF hK hV hL hX s9 s8 s19 s18 b42 b91 N4 i4 N15 i15;refine th_n ?_
    refine wp_cond_false (ev s133) ?_
    refine wp_skip ?_;refine th_n ?_;refine wp_seq ?_
    refine wp_regJ (by kernel_rfl) [17] [some (.int .i64 1)] (dlR 1) [17] [0] [] (fun _ _ _=>True) (by kernel_rfl) (by rw [hz];decide) ?_ (en rfl ?_ .nil) ?_
    ·exact fun _ _=>trivial
    ·exact fun Lk ak ww H _ _ hN=>wp_assign rfl rfl (hN _ _ H.k rfl trivial)
    intro L a94 w95 hL hF hK hV hX;replace hz:=hF.Z hz;replace hdf:=hF.E hdf;replace s13:=hF.G s13;replace s16:=hF.G s16;have s17:=gS a94 17 (hV 0 _ rfl);replace b53:=b53.k0 hK;replace N8:=N8.below hK.toBelow leR;replace hZ:=Nat.le_trans hZ hK.size;replace hB:=hK.below0 hB;clear hF hK hV hL hX s133;refine th_n ?_;refine wp_seq ?_
    have hXb:StaysX [17] (fun L aa ww=>(L 3=false→aa.tmps[17]?.getD undef=.int .i64 1)):=by
     intro L aa ww w' kk vv hkk hb hX
     have x0:=hX
     exact (fun h=>(put_ne' (hkk 17 (by simp)) vv).trans (x0 h))
    refine wp_regK hXb (by kernel_rfl) [134,135,136,17] [some (.agg #[.slice A8 ((pkR r ms p).length) c8]),some (.int .i64 1),some (.int .i64 (1+(((pkR r ms p).length:Nat):Int)*3)),some (.int .i64 (1+(((pkR r ms p).length:Nat):Int)*3))] (dlR 4) [134,135,136,17] [0,1,2,3] [] (by kernel_rfl) (by rw [hz];decide) ?_ (en rfl ?_ (en rfl ?_ (en rfl ?_ (en rfl ?_ .nil)))) ?_
    ·exact fun _ h=>(fun _=>s17)
    ·intro Lk ak ww H _ _ hN
     simp [go_sem,H.f.g rfl s13,(b53.k0 H.k).cell]
     exact (hN _ _ H.k rfl (hXb Lk ak ww _ (some 134) _ (by simp) bR H.x))
    ·intro Lk ak ww H _ _ hN
     have x0:=H.x
     exact wp_move rfl (ev (x0 (H.t 3 rfl))) (hN _ _ H.k rfl (hXb Lk ak ww _ (some 135) _ (by simp) bR H.x))
    ·intro Lk ak ww H _ _ hN
     simp [go_sem,(gS ak 134 (H.d 0 rfl rfl)),(gS ak 135 (H.d 1 rfl rfl))]
     refine (heldRegion_c (pkR r ms p).length ⟨A8,c8⟩ 1 ww (by omega) (by omega) (by omega) ((N8.below H.k.toBelow leR).out halfC_len)).mono ?_
     rintro x wx ⟨rfl,hb⟩
     exact (hN _ _ (H.k.call hb) rfl (hXb Lk ak ww _ (some 136) _ (by simp) hb H.x))
    ·intro Lk ak ww H _ _ hN
     have x0:=H.x
     exact wp_assign rfl (ev (H.d 2 rfl rfl)) (hN _ _ H.k rfl (fun h=>by simp [upd] at h))
    intro L a96 w97 hL hF hK hV hX;have x0:=hX;replace hz:=hF.Z hz;replace hdf:=hF.E hdf;replace s16:=hF.G s16;have s17:=gS a96 17 (hV 3 _ rfl);replace hZ:=Nat.le_trans hZ hK.size;replace hB:=hK.below0 hB;clear hF hK hV hL x0 hXb s13 b53 N8 i8
    have hneg98:decide (1+(((pkR r ms p).length:Nat):Int)*3<0)=false:=decide_eq_false (by omega)
    refine th_n ?_;refine wp_seq ?_;refine wp_seq ?_
    refine wp_regJ (by kernel_rfl) [137,138] [some (.int .i64 (1+(((pkR r ms p).length:Nat):Int)*3)),some (.bool false)] (dlR 2) [137,138] [0,1] [] (fun _ _ _=>True) (by kernel_rfl) (by rw [hz];decide) ?_ (en rfl ?_ (en rfl ?_ .nil)) ?_
    ·exact fun _ _=>trivial
    ·exact fun Lk ak ww H _ _ hN=>wp_move rfl (ev (H.f.g rfl s17)) (hN _ _ H.k rfl trivial)
    ·exact fun Lk ak ww H _ _ hN=>wp_bin rfl (ev (H.d 0 rfl rfl)) rfl rfl rfl (hN _ _ H.k (congrArg Value.bool hneg98) trivial)
    intro L a99 w100 hL hF hK hV hX;replace hz:=hF.Z hz;replace hdf:=hF.E hdf;replace s16:=hF.G s16;replace s17:=hF.G s17;have s138:=gS a99 138 (hV 1 _ rfl);replace hZ:=Nat.le_trans hZ hK.size;replace hB:=hK.below0 hB;clear hF hK hV hL hX;refine th_n ?_
    refine wp_cond_false (ev s138) ?_
    refine wp_skip ?_;refine th_n ?_;refine wp_seq ?_;refine wp_seq ?_
    refine wp_regJ (by kernel_rfl) [139,140,141] [some (.int .i64 (1+(((pkR r ms p).length:Nat):Int)*3)),some (.int .i64 (1+(((pkR r ms p).length:Nat):Int)*3)),some (.bool false)] (dlR 3) [139,140,141] [0,1,2] [] (fun _ _ _=>True) (by kernel_rfl) (by rw [hz];decide) ?_ (en rfl ?_ (en rfl ?_ (en rfl ?_ .nil))) ?_
    ·exact fun _ _=>trivial
    ·exact fun Lk ak ww H _ _ hN=>wp_move rfl (ev (H.f.g rfl s17)) (hN _ _ H.k rfl trivial)
    ·exact fun Lk ak ww H _ _ hN=>wp_move rfl (ev (H.f.g rfl s16)) (hN _ _ H.k rfl trivial)
    ·intro Lk ak ww H _ _ hN
     simp [go_sem,(gS ak 139 (H.d 0 rfl rfl)),(gS ak 140 (H.d 1 rfl rfl))]
     exact (hN _ _ H.k rfl trivial)
    intro L a101 w102 hL hF hK hV hX;replace hz:=hF.Z hz;replace hdf:=hF.E hdf;have s141:=gS a101 141 (hV 2 _ rfl);replace hZ:=Nat.le_trans hZ hK.size;replace hB:=hK.below0 hB;clear hF hK hV hL hX s16 s17 s138;refine th_n ?_
    refine wp_cond_false (ev s141) ?_
    refine wp_skip ?_;refine th_n ?_;refine wp_seq ?_
    refine wp_regJ (by kernel_rfl) [6] [some (.bool true)] (dlR 1) [6] [0] [] (fun _ _ _=>True) (by kernel_rfl) (by rw [hz];decide) ?_ (en rfl ?_ .nil) ?_
    ·exact fun _ _=>trivial
    ·exact fun Lk ak ww H _ _ hN=>wp_assign rfl rfl (hN _ _ H.k rfl trivial)
    intro L a103 w104 hL hF hK hV hX;replace hz:=hF.Z hz;replace hdf:=hF.E hdf;have s6:=gS a103 6 (hV 0 _ rfl);replace hZ:=Nat.le_trans hZ hK.size;replace hB:=hK.below0 hB;clear hF hK hV hL hX s141;refine th_n ?_
    refine wp_ret ?_
    refine bodyPost_ret (v:=.bool true) (by simp [results,Tryz.results10,go_sem,s6]) hdf ?_
    exact ⟨rfl,hB⟩
set_option maxRecDepth 100000 in
theorem lifted_PlantKeep (os:Os) (started:os.Started) (H:Type) (enc:TypeId × Value→H) :
 ReturnsInHanded {} Tryz.checked os 10 .any (Rows.fnExactPlantKeepSpec.pre6 enc Tryz.prog Tryz.f10 Rows.fnExactPlantKeepRow.domain false) (Rows.fnExactPlantKeepSpec.post enc Tryz.prog Tryz.f10 false true false false):=by
 refine returnsInHanded_of_change (C:=Tryz.checked) own_ started (by kernel_rfl) Tryz.func10
  (ChangeSpec.witness6 (enc:=enc) (C:=Tryz.checked) false ⟨#[],#[.agg #[.slice none 0 0,.int .i64 0,.int .i64 0,.int .i64 0,.int .i64 0,.int .i64 0,.slice none 0 0,.slice none 0 0],.slice none 0 0,.agg #[.slice none 0 0]],[]⟩ 8 (by kernel_rfl) (by kernel_rfl) (by kernel_rfl) (by kernel_rfl)) ?_
 intro W base args ds gs before hval0 hW hcnd _
 have hval:∀ (j:Nat) t v,Tryz.f10.params[j]? = some t→args[j]? = some v→Value.okWide Tryz.prog W .any base t v:=hval0
 have hW':=hW
 obtain ⟨p,q,hA0,hV,rfl,hfz,hnd⟩:=hW
 have hA:DataW.TrodAll enc Tryz.prog W 0 (fun _=>true) true Tryz.f10.params.toList args.toList ds p:=hA0
 rw [Tryz.params10] at hA hval
 obtain ⟨v0,vs0,d0,ds0,p0,q0,hargs,rfl,rfl,h0,r0⟩:=trodAll_cons hA
 obtain ⟨v1,vs1,d1,ds1,p1,q1,rfl,rfl,rfl,h1,r1⟩:=trodAll_cons r0
 obtain ⟨v2,vs2,d2,ds2,p2,q2,rfl,rfl,rfl,h2,r2⟩:=trodAll_cons r1
 obtain ⟨rfl,rfl,rfl⟩:=trodAll_nil r2
 obtain rfl:args=#[v0,v1,v2]:=by cases args;simp_all
 obtain ⟨rfl,rfl⟩:=trodVars_none hV
 have k0:=h0
 have lt0:∀ x∈p0,x.block<W.heap.size:=by obtain ⟨m,hm⟩:=k0;exact DataW.trod_lt m _ _ _ hm
 have ok0:=hval 0 27 v0 rfl rfl
 have k1:=h1
 have lt1:∀ x∈p1,x.block<W.heap.size:=by obtain ⟨m,hm⟩:=k1;exact DataW.trod_lt m _ _ _ hm
 have ok1:=hval 1 95 v1 rfl rfl
 have k2:=h2
 have lt2:∀ x∈p2,x.block<W.heap.size:=by obtain ⟨m,hm⟩:=k2;exact DataW.trod_lt m _ _ _ hm
 have ok2:=hval 2 25 v2 rfl rfl
 obtain ⟨r,r_a,hin_r,rfl,hl_r,hs_r⟩:=openRoom ok0 h0
 obtain ⟨ms_A,ms_c,ms,rfl,hl_ms,hin_ms,hs_ms⟩:=openModeSV ok1 h1
 obtain ⟨p,p_a,hin_p,rfl,hl_p,hs_p⟩:=openRegion ok2 h2
 refine (walkPlantKeep W r r_a hin_r hl_r hs_r ms_A ms ms_c hin_ms hl_ms hs_ms p p_a hin_p hl_p hs_p).mono fun e W' ⟨he,bel⟩=>?_
 subst he
 exact ⟨_,rfl,_,_,_,[],_,[],hW',trodAll_mk1 (shut_bool Tryz.underlying4 _),(trodAll_cons_mk (Below.trod laidOut_ (by kernel_rfl) (of_decide_eq_true (by kernel_rfl)) k0 bel lt0) (trodAll_cons_mk (Below.trod laidOut_ (by kernel_rfl) (of_decide_eq_true (by kernel_rfl)) k1 bel lt1) (trodAll_cons_mk (Below.trod laidOut_ (by kernel_rfl) (of_decide_eq_true (by kernel_rfl)) k2 bel lt2) trodAll_mk0))),rfl,bel.frame _,fun h=>by cases h⟩
/-- The statement. -/
theorem law_PlantKeep:Rows.FnExactPlantKeepSaid :=
 OpenClaim.holds_of_wide 10 Tryz.f10 rfl rfl rfl rfl rfl rfl rfl ⟨rfl,rfl,rfl,rfl,rfl⟩ rfl rfl rfl rfl rfl (by kernel_rfl) Tryz.func10 (by kernel_rfl)
  (of_decide_eq_true (by kernel_rfl)) (by unfold Func.isWrapper;first|(rw [if_pos (by decide +kernel)];kernel_rfl)|(rw [if_neg (by decide +kernel)];exact ⟨rfl,rfl⟩))
  (fun os started H enc _=>lifted_PlantKeep os started H enc)
#print axioms law_PlantKeep
end Go.Proofs.YtdncnhcffbgjhaaGreat
