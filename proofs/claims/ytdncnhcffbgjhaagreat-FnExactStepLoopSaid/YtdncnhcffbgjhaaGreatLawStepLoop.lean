/-
  For every input FnExactStepLoop returns true: the program's StepLoop and the reference's agree.
  Conditions: none.
-/
import Derived.Test.YtdncnhcffbgjhaaGreatGrY
import Derived.Test.YtdncnhcffbgjhaaGreatGrO
import Derived.Test.YtdncnhcffbgjhaaGreatLat
import Derived.Test.YtdncnhcffbgjhaaGreatInv2
namespace Go.Proofs.YtdncnhcffbgjhaaGreat
open Go.RowKit Go.ChangeShapes Go.WideShapes Go.ChangeAt Go.Deep

set_option maxRecDepth 100000 in
set_option maxHeartbeats 8000000 in
theorem walkStepLoop (w : World) (r : Room) (r_a : RoomA) (hin_r : RoomIn r) (hl_r : List.length r.map ≤ 9223372036854775807 ∧ List.length r.noise ≤ 9223372036854775807 ∧ List.length r.limits ≤ 9223372036854775807) (hs_r : RoomSl w r r_a) (p : List Half) (p_a : SlA) (hin_p : RegionIn p) (hl_p : List.length p ≤ 9223372036854775807) (hs_p : RegionSl w p p_a) (s : Spot) (hin_s : s.In) (wish : Int) (_hin_wish : In64 wish) (nz : Spot) (hin_nz : nz.In) :
    Calls Tryz.prog 9 #[roomV r r_a, .agg #[.slice p_a.A p.length p_a.c], spotV s, .int .i64 wish, spotV nz] w fun e w' => e = .returned (.bool true) ∧ Below w.heap.size w w' := by
 refine calls_v Tryz.func9 rfl (n := 85) Tryz.ntmps9 (by simp) ?_
 intro a0 hz hdf ha
 have s0 : a0.tmps[0]?.getD undef = roomV r r_a := ha 0 _ rfl
 have s1 : a0.tmps[1]?.getD undef = .agg #[.slice p_a.A p.length p_a.c] := ha 1 _ rfl
 have s2 : a0.tmps[2]?.getD undef = spotV s := ha 2 _ rfl
 have s3 : a0.tmps[3]?.getD undef = .int .i64 wish := ha 3 _ rfl
 have s4 : a0.tmps[4]?.getD undef = spotV nz := ha 4 _ rfl
 clear ha
 have hB := Below.refl w.heap.size w
 have hZ := Nat.le_refl w.heap.size
 refine wp_seq ?_
 refine wp_entry [5, 6, 7, 9, 10] [.pointer (some ⟨w.heap.size, 0, none⟩), .pointer (some ⟨(w.heap.size + 1), 0, none⟩), .pointer (some ⟨(w.heap.size + 2), 0, none⟩), .pointer (some ⟨(w.heap.size + 3), 0, none⟩), .bool false] [some (.cells (roomC r r_a).toArray 27), some (.cells [.slice p_a.A p.length p_a.c].toArray 25), some (.cells [.int .i64 s.x, .int .i64 s.y, .int .i64 s.d].toArray 50), some (.cells [.int .i64 nz.x, .int .i64 nz.y, .int .i64 nz.d].toArray 50), none] [0, 1, 2, 3, 4] [5, 6, 7, 9, 10] [0, 1, 2, 3, 4] (by kernel_rfl) (by rw [hz]; decide) (ec ?_ (ec ?_ (ec ?_ (ec ?_ (ec ?_ .nil))))) ?_
 · intro a w' hF hs N Q hN; simp [go_sem, hF.g rfl s0]; rw [hs]; exact hN
 · intro a w' hF hs N Q hN; simp [go_sem, hF.g rfl s1]; rw [hs]; exact hN
 · intro a w' hF hs N Q hN; simp [go_sem, hF.g rfl s2]; rw [hs]; exact hN
 · intro a w' hF hs N Q hN; simp [go_sem, hF.g rfl s4]; rw [hs]; exact hN
 · intro a w' hF hs N Q hN; simp [go_sem]; exact hN
 intro a1 w2 hF hV hb hO
 replace hz := hF.size.trans hz
 replace hdf := hF.defers.trans hdf
 replace s3 := hF.g rfl s3
 have s5 : a1.tmps[5]?.getD undef = .pointer (some ⟨w.heap.size, 0, none⟩) := hV 0 (by decide)
 have s6 : a1.tmps[6]?.getD undef = .pointer (some ⟨(w.heap.size + 1), 0, none⟩) := hV 1 (by decide)
 have s7 : a1.tmps[7]?.getD undef = .pointer (some ⟨(w.heap.size + 2), 0, none⟩) := hV 2 (by decide)
 have s9 : a1.tmps[9]?.getD undef = .pointer (some ⟨(w.heap.size + 3), 0, none⟩) := hV 3 (by decide)
 have b3 : HasT w2 w.heap.size 27 (roomC r r_a) := hO 0 _ rfl
 have b4 : HasT w2 (w.heap.size + 1) 25 [.slice p_a.A p.length p_a.c] := hO 1 _ rfl
 have b5 : HasT w2 (w.heap.size + 2) 50 [.int .i64 s.x, .int .i64 s.y, .int .i64 s.d] := hO 2 _ rfl
 have b6 : HasT w2 (w.heap.size + 3) 50 [.int .i64 nz.x, .int .i64 nz.y, .int .i64 nz.d] := hO 3 _ rfl
 have hG := b6.lt
 replace hB := below_tr hB hb
 have zw2 := Nat.le_trans hZ hb.size
 replace hZ := Nat.le_refl w2.heap.size
 clear hF hV hb hO s0 s1 s2 s4
 refine th_n ?_
 refine wp_seq ?_
 refine wp_regJ (by kernel_rfl) [11] [some (.int .i64 1048576)] ((List.range 1).map List.range) [11] [0] [] (fun _ _ _ => True) (by kernel_rfl) (by rw [hz]; decide) ?_ (ec ?_ .nil) ?_
 · exact fun _ _ => trivial
 · exact fun Lk ak ww hL hdd haa hF hK hV hX Nk Qk hN => wnt rfl (wp_assign rfl rfl (hN _ _ hK rfl trivial))
 intro L a7 w8 hL hF hK hV hX
 replace hz := hF.size.trans hz
 replace hdf := hF.defers.trans hdf
 replace s3 := hF.g rfl s3
 replace s5 := hF.g rfl s5
 replace s6 := hF.g rfl s6
 replace s7 := hF.g rfl s7
 replace s9 := hF.g rfl s9
 have s11 : a7.tmps[11]?.getD undef = .int .i64 1048576 := hV 0 _ rfl
 replace b3 := b3.kp hK (by simp)
 replace b4 := b4.kp hK (by simp)
 replace b5 := b5.kp hK (by simp)
 replace b6 := b6.kp hK (by simp)
 replace hZ := Nat.le_trans hZ hK.size
 replace hB := hK.below0 hB
 clear hF hK hV hL hX
 refine th_n ?_
 refine wp_seq ?_
 rcases Bool.eq_false_or_eq_true (decide (1048576 - ((roomLen r : Nat) : Int) < 0)) with q9 | q9
 · skip
   refine wp_regJ (by kernel_rfl) [20, 21, 22, 11] [some (roomV r r_a), some (.int .i64 1048576), some (.int .i64 (-1)), some (.int .i64 (-1))] ((List.range 4).map List.range) [20, 21, 22, 11] [0, 1, 2, 3] [] (fun L aa ww => (L 3 = false → aa.tmps[11]?.getD undef = .int .i64 1048576)) (by kernel_rfl) (by rw [hz]; decide) ?_ (ec ?_ (ec ?_ (ec ?_ (ec ?_ .nil)))) ?_
   · exact fun _ h => (fun _ => s11)
   · intro Lk ak ww hL hdd haa hF hK hV hX Nk Qk hN; refine wnt rfl ?_
     simp [go_sem, hF.g rfl s5, (b3.kp hK (by simp)).cell]
     exact (hN _ _ hK rfl (fun h => (put_ne' (by decide) _).trans (hX h)))
   · intro Lk ak ww hL hdd haa hF hK hV hX Nk Qk hN
     have x0 := hX
     refine wnt rfl ?_
     exact wp_move rfl (ev (x0 (haa 3 rfl))) (hN _ _ hK rfl (fun h => (put_ne' (by decide) _).trans (x0 h)))
   · intro Lk ak ww hL hdd haa hF hK hV hX Nk Qk hN; refine wnt rfl ?_
     simp [go_sem, (show ak.tmps[20]?.getD undef = _ from hV 0 _ rfl (hdd 0 rfl)), (show ak.tmps[21]?.getD undef = _ from hV 1 _ rfl (hdd 1 rfl))]
     refine (szRoom_c r r_a 1048576 ww hl_r (by omega) (by omega)).mono ?_
     rintro x wx ⟨rfl, hb⟩
     exact (hN _ _ (hK.call hb) (congrArg (Value.int .i64) (if_pos (dec_t q9))) (fun h => (put_ne' (by decide) _).trans (hX h)))
   · intro Lk ak ww hL hdd haa hF hK hV hX Nk Qk hN
     have x0 := hX
     refine wnt rfl ?_
     exact wp_assign rfl (ev (hV 2 _ rfl (hdd 2 rfl))) (hN _ _ hK rfl (fun h => by simp [upd] at h))
   intro L a10 w11 hL hF hK hV hX
   have x0 := hX
   replace hz := hF.size.trans hz
   replace hdf := hF.defers.trans hdf
   replace s3 := hF.g rfl s3
   replace s5 := hF.g rfl s5
   replace s6 := hF.g rfl s6
   replace s7 := hF.g rfl s7
   replace s9 := hF.g rfl s9
   have s11 : a10.tmps[11]?.getD undef = .int .i64 (-1) := hV 3 _ rfl
   replace b3 := b3.kp hK (by simp)
   replace b4 := b4.kp hK (by simp)
   replace b5 := b5.kp hK (by simp)
   replace b6 := b6.kp hK (by simp)
   replace hZ := Nat.le_trans hZ hK.size
   replace hB := hK.below0 hB
   clear hF hK hV hL x0
   refine th_n ?_
   refine wp_seq ?_
   refine wp_seq ?_
   refine wp_regJ (by kernel_rfl) [23, 24] [some (.int .i64 (-1)), some (.bool true)] ((List.range 2).map List.range) [23, 24] [0, 1] [] (fun _ _ _ => True) (by kernel_rfl) (by rw [hz]; decide) ?_ (ec ?_ (ec ?_ .nil)) ?_
   · exact fun _ _ => trivial
   · exact fun Lk ak ww hL hdd haa hF hK hV hX Nk Qk hN => wnt rfl (wp_move rfl (ev (hF.g rfl s11)) (hN _ _ hK rfl trivial))
   · exact fun Lk ak ww hL hdd haa hF hK hV hX Nk Qk hN => wnt rfl (wp_bin rfl (ev (hV 0 _ rfl (hdd 0 rfl))) rfl rfl rfl (hN _ _ hK rfl trivial))
   intro L a12 w13 hL hF hK hV hX
   replace hz := hF.size.trans hz
   replace hdf := hF.defers.trans hdf
   replace s3 := hF.g rfl s3
   replace s5 := hF.g rfl s5
   replace s6 := hF.g rfl s6
   replace s7 := hF.g rfl s7
   replace s9 := hF.g rfl s9
   replace s11 := hF.g rfl s11
   have s24 : a12.tmps[24]?.getD undef = .bool true := hV 1 _ rfl
   replace b3 := b3.kp hK (by simp)
   replace b4 := b4.kp hK (by simp)
   replace b5 := b5.kp hK (by simp)
   replace b6 := b6.kp hK (by simp)
   replace hZ := Nat.le_trans hZ hK.size
   replace hB := hK.below0 hB
   clear hF hK hV hL hX
   refine th_n ?_
   refine wp_cond_true (ev s24) ?_
   refine wp_seq ?_
   refine wp_regJ (by kernel_rfl) [10] [some (.bool true)] ((List.range 1).map List.range) [10] [0] [] (fun _ _ _ => True) (by kernel_rfl) (by rw [hz]; decide) ?_ (ec ?_ .nil) ?_
   · exact fun _ _ => trivial
   · exact fun Lk ak ww hL hdd haa hF hK hV hX Nk Qk hN => wnt rfl (wp_assign rfl rfl (hN _ _ hK rfl trivial))
   intro L a14 w15 hL hF hK hV hX
   replace hz := hF.size.trans hz
   replace hdf := hF.defers.trans hdf
   have s10 : a14.tmps[10]?.getD undef = .bool true := hV 0 _ rfl
   replace hZ := Nat.le_trans hZ hK.size
   replace hB := hK.below0 hB
   clear hF hK hV hL hX s3 s5 s6 s7 s9 s11 s24 b3 b4 b5 b6
   refine th_n ?_
   refine wp_ret ?_
   refine th_r ?_
   refine bodyPost_ret (v := .bool true) (by simp [results, Tryz.results9, go_sem, s10]) hdf ?_
   exact ⟨rfl, hB⟩
 · skip
   refine wp_regJ (by kernel_rfl) [20, 21, 22, 11] [some (roomV r r_a), some (.int .i64 1048576), some (.int .i64 (1048576 - ((roomLen r : Nat) : Int))), some (.int .i64 (1048576 - ((roomLen r : Nat) : Int)))] ((List.range 4).map List.range) [20, 21, 22, 11] [0, 1, 2, 3] [] (fun L aa ww => (L 3 = false → aa.tmps[11]?.getD undef = .int .i64 1048576)) (by kernel_rfl) (by rw [hz]; decide) ?_ (ec ?_ (ec ?_ (ec ?_ (ec ?_ .nil)))) ?_
   · exact fun _ h => (fun _ => s11)
   · intro Lk ak ww hL hdd haa hF hK hV hX Nk Qk hN; refine wnt rfl ?_
     simp [go_sem, hF.g rfl s5, (b3.kp hK (by simp)).cell]
     exact (hN _ _ hK rfl (fun h => (put_ne' (by decide) _).trans (hX h)))
   · intro Lk ak ww hL hdd haa hF hK hV hX Nk Qk hN
     have x0 := hX
     refine wnt rfl ?_
     exact wp_move rfl (ev (x0 (haa 3 rfl))) (hN _ _ hK rfl (fun h => (put_ne' (by decide) _).trans (x0 h)))
   · intro Lk ak ww hL hdd haa hF hK hV hX Nk Qk hN; refine wnt rfl ?_
     simp [go_sem, (show ak.tmps[20]?.getD undef = _ from hV 0 _ rfl (hdd 0 rfl)), (show ak.tmps[21]?.getD undef = _ from hV 1 _ rfl (hdd 1 rfl))]
     refine (szRoom_c r r_a 1048576 ww hl_r (by omega) (by omega)).mono ?_
     rintro x wx ⟨rfl, hb⟩
     exact (hN _ _ (hK.call hb) (congrArg (Value.int .i64) (if_neg (dec_f q9))) (fun h => (put_ne' (by decide) _).trans (hX h)))
   · intro Lk ak ww hL hdd haa hF hK hV hX Nk Qk hN
     have x0 := hX
     refine wnt rfl ?_
     exact wp_assign rfl (ev (hV 2 _ rfl (hdd 2 rfl))) (hN _ _ hK rfl (fun h => by simp [upd] at h))
   intro L a16 w17 hL hF hK hV hX
   have x0 := hX
   replace hz := hF.size.trans hz
   replace hdf := hF.defers.trans hdf
   replace s3 := hF.g rfl s3
   replace s5 := hF.g rfl s5
   replace s6 := hF.g rfl s6
   replace s7 := hF.g rfl s7
   replace s9 := hF.g rfl s9
   have s11 : a16.tmps[11]?.getD undef = .int .i64 (1048576 - ((roomLen r : Nat) : Int)) := hV 3 _ rfl
   replace b3 := b3.kp hK (by simp)
   replace b4 := b4.kp hK (by simp)
   replace b5 := b5.kp hK (by simp)
   replace b6 := b6.kp hK (by simp)
   replace hZ := Nat.le_trans hZ hK.size
   replace hB := hK.below0 hB
   clear hF hK hV hL x0
   refine th_n ?_
   refine wp_seq ?_
   refine wp_seq ?_
   refine wp_regJ (by kernel_rfl) [23, 24] [some (.int .i64 (1048576 - ((roomLen r : Nat) : Int))), some (.bool (decide (1048576 - ((roomLen r : Nat) : Int) < 0)))] ((List.range 2).map List.range) [23, 24] [0, 1] [] (fun _ _ _ => True) (by kernel_rfl) (by rw [hz]; decide) ?_ (ec ?_ (ec ?_ .nil)) ?_
   · exact fun _ _ => trivial
   · exact fun Lk ak ww hL hdd haa hF hK hV hX Nk Qk hN => wnt rfl (wp_move rfl (ev (hF.g rfl s11)) (hN _ _ hK rfl trivial))
   · exact fun Lk ak ww hL hdd haa hF hK hV hX Nk Qk hN => wnt rfl (wp_bin rfl (ev (hV 0 _ rfl (hdd 0 rfl))) rfl rfl rfl (hN _ _ hK rfl trivial))
   intro L a18 w19 hL hF hK hV hX
   replace hz := hF.size.trans hz
   replace hdf := hF.defers.trans hdf
   replace s3 := hF.g rfl s3
   replace s5 := hF.g rfl s5
   replace s6 := hF.g rfl s6
   replace s7 := hF.g rfl s7
   replace s9 := hF.g rfl s9
   replace s11 := hF.g rfl s11
   have s24 : a18.tmps[24]?.getD undef = .bool (decide (1048576 - ((roomLen r : Nat) : Int) < 0)) := hV 1 _ rfl
   replace b3 := b3.kp hK (by simp)
   replace b4 := b4.kp hK (by simp)
   replace b5 := b5.kp hK (by simp)
   replace b6 := b6.kp hK (by simp)
   replace hZ := Nat.le_trans hZ hK.size
   replace hB := hK.below0 hB
   clear hF hK hV hL hX
   refine th_n ?_
   refine wp_cond_false (ev (vb s24 q9)) ?_
   refine wp_skip ?_
   refine th_n ?_
   refine wp_seq ?_
   rcases Bool.eq_false_or_eq_true (decide (1048576 - ((roomLen r : Nat) : Int) - ((regionLen p : Nat) : Int) < 0)) with q20 | q20
   · skip
     refine wp_regJ (by kernel_rfl) [25, 26, 27, 11] [some (.agg #[.slice p_a.A p.length p_a.c]), some (.int .i64 (1048576 - ((roomLen r : Nat) : Int))), some (.int .i64 (-1)), some (.int .i64 (-1))] ((List.range 4).map List.range) [25, 26, 27, 11] [0, 1, 2, 3] [] (fun L aa ww => (L 3 = false → aa.tmps[11]?.getD undef = .int .i64 (1048576 - ((roomLen r : Nat) : Int)))) (by kernel_rfl) (by rw [hz]; decide) ?_ (ec ?_ (ec ?_ (ec ?_ (ec ?_ .nil)))) ?_
     · exact fun _ h => (fun _ => s11)
     · intro Lk ak ww hL hdd haa hF hK hV hX Nk Qk hN; refine wnt rfl ?_
       simp [go_sem, hF.g rfl s6, (b4.kp hK (by simp)).cell]
       exact (hN _ _ hK rfl (fun h => (put_ne' (by decide) _).trans (hX h)))
     · intro Lk ak ww hL hdd haa hF hK hV hX Nk Qk hN
       have x0 := hX
       refine wnt rfl ?_
       exact wp_move rfl (ev (x0 (haa 3 rfl))) (hN _ _ hK rfl (fun h => (put_ne' (by decide) _).trans (x0 h)))
     · intro Lk ak ww hL hdd haa hF hK hV hX Nk Qk hN; refine wnt rfl ?_
       simp [go_sem, (show ak.tmps[25]?.getD undef = _ from hV 0 _ rfl (hdd 0 rfl)), (show ak.tmps[26]?.getD undef = _ from hV 1 _ rfl (hdd 1 rfl))]
       refine (szRegion_c p p_a (1048576 - ((roomLen r : Nat) : Int)) ww hl_p (by have := dec_f q9; omega) (by have := dec_f q9; omega)).mono ?_
       rintro x wx ⟨rfl, hb⟩
       exact (hN _ _ (hK.call hb) (congrArg (Value.int .i64) (if_pos (dec_t q20))) (fun h => (put_ne' (by decide) _).trans (hX h)))
     · intro Lk ak ww hL hdd haa hF hK hV hX Nk Qk hN
       have x0 := hX
       refine wnt rfl ?_
       exact wp_assign rfl (ev (hV 2 _ rfl (hdd 2 rfl))) (hN _ _ hK rfl (fun h => by simp [upd] at h))
     intro L a21 w22 hL hF hK hV hX
     have x0 := hX
     replace hz := hF.size.trans hz
     replace hdf := hF.defers.trans hdf
     replace s3 := hF.g rfl s3
     replace s5 := hF.g rfl s5
     replace s6 := hF.g rfl s6
     replace s7 := hF.g rfl s7
     replace s9 := hF.g rfl s9
     have s11 : a21.tmps[11]?.getD undef = .int .i64 (-1) := hV 3 _ rfl
     replace b3 := b3.kp hK (by simp)
     replace b4 := b4.kp hK (by simp)
     replace b5 := b5.kp hK (by simp)
     replace b6 := b6.kp hK (by simp)
     replace hZ := Nat.le_trans hZ hK.size
     replace hB := hK.below0 hB
     clear hF hK hV hL x0 s24
     refine th_n ?_
     refine wp_seq ?_
     refine wp_seq ?_
     refine wp_regJ (by kernel_rfl) [28, 29] [some (.int .i64 (-1)), some (.bool true)] ((List.range 2).map List.range) [28, 29] [0, 1] [] (fun _ _ _ => True) (by kernel_rfl) (by rw [hz]; decide) ?_ (ec ?_ (ec ?_ .nil)) ?_
     · exact fun _ _ => trivial
     · exact fun Lk ak ww hL hdd haa hF hK hV hX Nk Qk hN => wnt rfl (wp_move rfl (ev (hF.g rfl s11)) (hN _ _ hK rfl trivial))
     · exact fun Lk ak ww hL hdd haa hF hK hV hX Nk Qk hN => wnt rfl (wp_bin rfl (ev (hV 0 _ rfl (hdd 0 rfl))) rfl rfl rfl (hN _ _ hK rfl trivial))
     intro L a23 w24 hL hF hK hV hX
     replace hz := hF.size.trans hz
     replace hdf := hF.defers.trans hdf
     replace s3 := hF.g rfl s3
     replace s5 := hF.g rfl s5
     replace s6 := hF.g rfl s6
     replace s7 := hF.g rfl s7
     replace s9 := hF.g rfl s9
     have s29 : a23.tmps[29]?.getD undef = .bool true := hV 1 _ rfl
     replace b3 := b3.kp hK (by simp)
     replace b4 := b4.kp hK (by simp)
     replace b5 := b5.kp hK (by simp)
     replace b6 := b6.kp hK (by simp)
     replace hZ := Nat.le_trans hZ hK.size
     replace hB := hK.below0 hB
     clear hF hK hV hL hX s11
     refine th_n ?_
     refine wp_cond_true (ev s29) ?_
     refine wp_seq ?_
     refine wp_regJ (by kernel_rfl) [10] [some (.bool true)] ((List.range 1).map List.range) [10] [0] [] (fun _ _ _ => True) (by kernel_rfl) (by rw [hz]; decide) ?_ (ec ?_ .nil) ?_
     · exact fun _ _ => trivial
     · exact fun Lk ak ww hL hdd haa hF hK hV hX Nk Qk hN => wnt rfl (wp_assign rfl rfl (hN _ _ hK rfl trivial))
     intro L a25 w26 hL hF hK hV hX
     replace hz := hF.size.trans hz
     replace hdf := hF.defers.trans hdf
     have s10 : a25.tmps[10]?.getD undef = .bool true := hV 0 _ rfl
     replace hZ := Nat.le_trans hZ hK.size
     replace hB := hK.below0 hB
     clear hF hK hV hL hX s3 s5 s6 s7 s9 s29 b3 b4 b5 b6
     refine th_n ?_
     refine wp_ret ?_
     refine th_r ?_
     refine bodyPost_ret (v := .bool true) (by simp [results, Tryz.results9, go_sem, s10]) hdf ?_
     exact ⟨rfl, hB⟩
   · skip
     refine wp_regJ (by kernel_rfl) [25, 26, 27, 11] [some (.agg #[.slice p_a.A p.length p_a.c]), some (.int .i64 (1048576 - ((roomLen r : Nat) : Int))), some (.int .i64 (1048576 - ((roomLen r : Nat) : Int) - ((regionLen p : Nat) : Int))), some (.int .i64 (1048576 - ((roomLen r : Nat) : Int) - ((regionLen p : Nat) : Int)))] ((List.range 4).map List.range) [25, 26, 27, 11] [0, 1, 2, 3] [] (fun L aa ww => (L 3 = false → aa.tmps[11]?.getD undef = .int .i64 (1048576 - ((roomLen r : Nat) : Int)))) (by kernel_rfl) (by rw [hz]; decide) ?_ (ec ?_ (ec ?_ (ec ?_ (ec ?_ .nil)))) ?_
     · exact fun _ h => (fun _ => s11)
     · intro Lk ak ww hL hdd haa hF hK hV hX Nk Qk hN; refine wnt rfl ?_
       simp [go_sem, hF.g rfl s6, (b4.kp hK (by simp)).cell]
       exact (hN _ _ hK rfl (fun h => (put_ne' (by decide) _).trans (hX h)))
     · intro Lk ak ww hL hdd haa hF hK hV hX Nk Qk hN
       have x0 := hX
       refine wnt rfl ?_
       exact wp_move rfl (ev (x0 (haa 3 rfl))) (hN _ _ hK rfl (fun h => (put_ne' (by decide) _).trans (x0 h)))
     · intro Lk ak ww hL hdd haa hF hK hV hX Nk Qk hN; refine wnt rfl ?_
       simp [go_sem, (show ak.tmps[25]?.getD undef = _ from hV 0 _ rfl (hdd 0 rfl)), (show ak.tmps[26]?.getD undef = _ from hV 1 _ rfl (hdd 1 rfl))]
       refine (szRegion_c p p_a (1048576 - ((roomLen r : Nat) : Int)) ww hl_p (by have := dec_f q9; omega) (by have := dec_f q9; omega)).mono ?_
       rintro x wx ⟨rfl, hb⟩
       exact (hN _ _ (hK.call hb) (congrArg (Value.int .i64) (if_neg (dec_f q20))) (fun h => (put_ne' (by decide) _).trans (hX h)))
     · intro Lk ak ww hL hdd haa hF hK hV hX Nk Qk hN
       have x0 := hX
       refine wnt rfl ?_
       exact wp_assign rfl (ev (hV 2 _ rfl (hdd 2 rfl))) (hN _ _ hK rfl (fun h => by simp [upd] at h))
     intro L a27 w28 hL hF hK hV hX
     have x0 := hX
     replace hz := hF.size.trans hz
     replace hdf := hF.defers.trans hdf
     replace s3 := hF.g rfl s3
     replace s5 := hF.g rfl s5
     replace s6 := hF.g rfl s6
     replace s7 := hF.g rfl s7
     replace s9 := hF.g rfl s9
     have s11 : a27.tmps[11]?.getD undef = .int .i64 (1048576 - ((roomLen r : Nat) : Int) - ((regionLen p : Nat) : Int)) := hV 3 _ rfl
     replace b3 := b3.kp hK (by simp)
     replace b4 := b4.kp hK (by simp)
     replace b5 := b5.kp hK (by simp)
     replace b6 := b6.kp hK (by simp)
     replace hZ := Nat.le_trans hZ hK.size
     replace hB := hK.below0 hB
     clear hF hK hV hL x0 s24
     refine th_n ?_
     refine wp_seq ?_
     refine wp_seq ?_
     refine wp_regJ (by kernel_rfl) [28, 29] [some (.int .i64 (1048576 - ((roomLen r : Nat) : Int) - ((regionLen p : Nat) : Int))), some (.bool (decide (1048576 - ((roomLen r : Nat) : Int) - ((regionLen p : Nat) : Int) < 0)))] ((List.range 2).map List.range) [28, 29] [0, 1] [] (fun _ _ _ => True) (by kernel_rfl) (by rw [hz]; decide) ?_ (ec ?_ (ec ?_ .nil)) ?_
     · exact fun _ _ => trivial
     · exact fun Lk ak ww hL hdd haa hF hK hV hX Nk Qk hN => wnt rfl (wp_move rfl (ev (hF.g rfl s11)) (hN _ _ hK rfl trivial))
     · exact fun Lk ak ww hL hdd haa hF hK hV hX Nk Qk hN => wnt rfl (wp_bin rfl (ev (hV 0 _ rfl (hdd 0 rfl))) rfl rfl rfl (hN _ _ hK rfl trivial))
     intro L a29 w30 hL hF hK hV hX
     replace hz := hF.size.trans hz
     replace hdf := hF.defers.trans hdf
     replace s3 := hF.g rfl s3
     replace s5 := hF.g rfl s5
     replace s6 := hF.g rfl s6
     replace s7 := hF.g rfl s7
     replace s9 := hF.g rfl s9
     have s29 : a29.tmps[29]?.getD undef = .bool (decide (1048576 - ((roomLen r : Nat) : Int) - ((regionLen p : Nat) : Int) < 0)) := hV 1 _ rfl
     replace b3 := b3.kp hK (by simp)
     replace b4 := b4.kp hK (by simp)
     replace b5 := b5.kp hK (by simp)
     replace b6 := b6.kp hK (by simp)
     replace hZ := Nat.le_trans hZ hK.size
     replace hB := hK.below0 hB
     clear hF hK hV hL hX s11
     refine th_n ?_
     refine wp_cond_false (ev (vb s29 q20)) ?_
     refine wp_skip ?_
     refine th_n ?_
     refine wp_seq ?_
     have hXb : ∀ (L : Nat → Bool) (aa : Act) (ww w' : World) (k : Option Nat) (v : Value), (∀ s ∈ [12, 13, 32, 34], k ≠ some s) → Below ww.heap.size ww w' → (L 1 = true → (fun ww v => ∃ m1, v = roomV r m1 ∧ RoomNew ww w30.heap.size r m1) ww (aa.tmps[32]?.getD undef)) ∧ (L 3 = true → (fun ww v => ∃ m2, v = .agg #[.slice m2.A p.length m2.c] ∧ RegionNew ww w30.heap.size p m2) ww (aa.tmps[34]?.getD undef)) ∧ (L 14 = true → BoxX w30 aa ww 12 57 [.int .i64 0, .int .i64 0, .int .i64 0] (L 16) (fun _ vs => vs = [.int .i64 (((stepL r p s wish nz).getD step0).1.x), .int .i64 (((stepL r p s wish nz).getD step0).1.y), .int .i64 (((stepL r p s wish nz).getD step0).1.d)])) ∧ (L 15 = true → BoxX w30 aa ww 13 52 [.int .i64 0, .int .i64 0] (L 17) (fun _ vs => vs = [.int .i64 (((stepL r p s wish nz).getD step0).2.n), .int .i64 (((stepL r p s wish nz).getD step0).2.d)])) → (L 1 = true → (fun ww v => ∃ m1, v = roomV r m1 ∧ RoomNew ww w30.heap.size r m1) w' ((aa.put k v).tmps[32]?.getD undef)) ∧ (L 3 = true → (fun ww v => ∃ m2, v = .agg #[.slice m2.A p.length m2.c] ∧ RegionNew ww w30.heap.size p m2) w' ((aa.put k v).tmps[34]?.getD undef)) ∧ (L 14 = true → BoxX w30 (aa.put k v) w' 12 57 [.int .i64 0, .int .i64 0, .int .i64 0] (L 16) (fun _ vs => vs = [.int .i64 (((stepL r p s wish nz).getD step0).1.x), .int .i64 (((stepL r p s wish nz).getD step0).1.y), .int .i64 (((stepL r p s wish nz).getD step0).1.d)])) ∧ (L 15 = true → BoxX w30 (aa.put k v) w' 13 52 [.int .i64 0, .int .i64 0] (L 17) (fun _ vs => vs = [.int .i64 (((stepL r p s wish nz).getD step0).2.n), .int .i64 (((stepL r p s wish nz).getD step0).2.d)])) := by
      intro L aa ww w' k v hk hb hX
      obtain ⟨x0, x1, x2, x3⟩ := hX
      exact ⟨(fun h => by rw [put_ne' (hk 32 (by simp))]; obtain ⟨m1', e, f1'⟩ := x0 h; exact ⟨m1', e, f1'.below hb (Nat.le_refl _)⟩), (fun h => by rw [put_ne' (hk 34 (by simp))]; obtain ⟨m2', e, f2'⟩ := x1 h; exact ⟨m2', e, f2'.below hb (Nat.le_refl _)⟩), (fun h => ((x2 h).bel hb (fun _ h => h)).put (hk 12 (by simp)) _), (fun h => ((x3 h).bel hb (fun _ h => h)).put (hk 13 (by simp)) _)⟩
     refine wp_regJ (by kernel_rfl) [31, 32, 33, 34, 35, 36, 37, 38, 39, 40, 30, 41, 42, 43, 12, 13, 0, 0, 14] [some (roomV r r_a), none, some (.agg #[.slice p_a.A p.length p_a.c]), none, some (spotV s), some (spotV s), some (.int .i64 wish), some (spotV nz), some (spotV nz), some (.tuple #[spotV (((stepL r p s wish nz).getD step0).1), ratioV (((stepL r p s wish nz).getD step0).2), .bool ((stepL r p s wish nz).isSome)]), some (.tuple #[spotV (((stepL r p s wish nz).getD step0).1), ratioV (((stepL r p s wish nz).getD step0).2), .bool ((stepL r p s wish nz).isSome)]), some (spotV (((stepL r p s wish nz).getD step0).1)), some (ratioV (((stepL r p s wish nz).getD step0).2)), some (.bool ((stepL r p s wish nz).isSome)), none, none, none, none, some (.bool ((stepL r p s wish nz).isSome))] ([[], [0], [], [0, 1, 2], [], [0, 1, 2, 3, 4], [], [], [0, 1, 2, 3, 4, 5, 7], [0, 1, 2, 3, 4, 5, 6, 7, 8], [0, 1, 2, 3, 4, 5, 6, 7, 8, 9], [0, 1, 2, 3, 4, 5, 6, 7, 8, 9, 10], [0, 1, 2, 3, 4, 5, 6, 7, 8, 9, 10], [0, 1, 2, 3, 4, 5, 6, 7, 8, 9, 10], [], [], [0, 1, 2, 3, 4, 5, 6, 7, 8, 9, 10, 11, 14, 15], [0, 1, 2, 3, 4, 5, 6, 7, 8, 9, 10, 11, 12, 14, 15, 16], [0, 1, 2, 3, 4, 5, 6, 7, 8, 9, 10, 11, 12, 13, 14, 15, 16, 17]]) [31, 32, 33, 34, 35, 36, 37, 38, 39, 40, 30, 41, 42, 43, 12, 13, 14] [0, 1, 2, 3, 4, 5, 6, 7, 8, 9, 10, 11, 12, 13, 14, 15, 16, 17, 18] [] (fun L aa ww => (L 1 = true → (fun ww v => ∃ m1, v = roomV r m1 ∧ RoomNew ww w30.heap.size r m1) ww (aa.tmps[32]?.getD undef)) ∧ (L 3 = true → (fun ww v => ∃ m2, v = .agg #[.slice m2.A p.length m2.c] ∧ RegionNew ww w30.heap.size p m2) ww (aa.tmps[34]?.getD undef)) ∧ (L 14 = true → BoxX w30 aa ww 12 57 [.int .i64 0, .int .i64 0, .int .i64 0] (L 16) (fun _ vs => vs = [.int .i64 (((stepL r p s wish nz).getD step0).1.x), .int .i64 (((stepL r p s wish nz).getD step0).1.y), .int .i64 (((stepL r p s wish nz).getD step0).1.d)])) ∧ (L 15 = true → BoxX w30 aa ww 13 52 [.int .i64 0, .int .i64 0] (L 17) (fun _ vs => vs = [.int .i64 (((stepL r p s wish nz).getD step0).2.n), .int .i64 (((stepL r p s wish nz).getD step0).2.d)]))) (by kernel_rfl) (by rw [hz]; decide) ?_ (ec ?_ (ec ?_ (ec ?_ (ec ?_ (ec ?_ (ec ?_ (ec ?_ (ec ?_ (ec ?_ (ec ?_ (ec ?_ (ec ?_ (ec ?_ (ec ?_ (ec ?_ (ec ?_ (ec ?_ (ec ?_ (ec ?_ .nil))))))))))))))))))) ?_
     · exact fun _ h => ⟨(fun h => by cases h), (fun h => by cases h), (fun h => by cases h), (fun h => by cases h)⟩
     · intro Lk ak ww hL hdd haa hF hK hV hX Nk Qk hN; refine wnt rfl ?_
       simp [go_sem, hF.g rfl s5, (b3.kp hK (by simp)).cell]
       exact (hN _ _ hK rfl (hXb Lk ak ww _ (some 31) _ (by simp) (Below.refl _ _) hX))
     · intro Lk ak ww hL hdd haa hF hK hV hX Nk Qk hN
       obtain ⟨x0, x1, x2, x3⟩ := hX
       refine wnt rfl ?_
       simp [go_sem, (show ak.tmps[31]?.getD undef = _ from hV 0 _ rfl (hdd 0 rfl))]
       have hBi := hK.below0 hB
       refine (toRoom_c r r_a ww (by have := dec_f q9; have := dec_f q20; (try unfold regionLen at *); omega) (hs_r.below hBi)).mono ?_
       rintro x wx ⟨m1, rfl, f0, hb⟩
       have f1 := f0.mono hK.size
       exact (hN _ _ (hK.call hb) trivial ⟨(fun _ => by rw [put_get_self (hF.lt (by rw [hz]; decide))]; exact ⟨m1, rfl, f1⟩), (fun h => by rw [put_ne' (by decide)]; obtain ⟨m2', e, f2'⟩ := x1 h; exact ⟨m2', e, f2'.below hb (Nat.le_refl _)⟩), (fun h => ((x2 h).bel hb (fun _ h => h)).put (by decide) _), (fun h => ((x3 h).bel hb (fun _ h => h)).put (by decide) _)⟩)
     · intro Lk ak ww hL hdd haa hF hK hV hX Nk Qk hN; refine wnt rfl ?_
       simp [go_sem, hF.g rfl s6, (b4.kp hK (by simp)).cell]
       exact (hN _ _ hK rfl (hXb Lk ak ww _ (some 33) _ (by simp) (Below.refl _ _) hX))
     · intro Lk ak ww hL hdd haa hF hK hV hX Nk Qk hN
       obtain ⟨x0, x1, x2, x3⟩ := hX
       refine wnt rfl ?_
       simp [go_sem, (show ak.tmps[33]?.getD undef = _ from hV 2 _ rfl (hdd 2 rfl))]
       have hBi := hK.below0 hB
       refine (toRegion_c p p_a ww (by have := dec_f q9; have := dec_f q20; (try unfold regionLen at *); omega) ⟨(hs_p.halves.below hBi)⟩).mono ?_
       rintro x wx ⟨m2, rfl, f0, hb⟩
       have f2 := f0.mono hK.size
       exact (hN _ _ (hK.call hb) trivial ⟨(fun h => by rw [put_ne' (by decide)]; obtain ⟨m1', e, f1'⟩ := x0 h; exact ⟨m1', e, f1'.below hb (Nat.le_refl _)⟩), (fun _ => by rw [put_get_self (hF.lt (by rw [hz]; decide))]; exact ⟨m2, rfl, f2⟩), (fun h => ((x2 h).bel hb (fun _ h => h)).put (by decide) _), (fun h => ((x3 h).bel hb (fun _ h => h)).put (by decide) _)⟩)
     · intro Lk ak ww hL hdd haa hF hK hV hX Nk Qk hN; refine wnt rfl ?_
       simp [go_sem, hF.g rfl s7, (b5.kp hK (by simp)).cell]
       exact (hN _ _ hK rfl (hXb Lk ak ww _ (some 35) _ (by simp) (Below.refl _ _) hX))
     · intro Lk ak ww hL hdd haa hF hK hV hX Nk Qk hN; refine wnt rfl ?_
       simp [go_sem, (show ak.tmps[35]?.getD undef = _ from hV 4 _ rfl (hdd 4 rfl))]
       refine (toSpot_c s ww).mono ?_
       rintro x wx ⟨rfl, hb⟩
       exact (hN _ _ (hK.call hb) rfl (hXb Lk ak ww _ (some 36) _ (by simp) hb hX))
     · exact fun Lk ak ww hL hdd haa hF hK hV hX Nk Qk hN => wnt rfl (wp_move rfl (ev (hF.g rfl s3)) (hN _ _ hK rfl (hXb Lk ak ww _ (some 37) _ (by simp) (Below.refl _ _) hX)))
     · intro Lk ak ww hL hdd haa hF hK hV hX Nk Qk hN; refine wnt rfl ?_
       simp [go_sem, hF.g rfl s9, (b6.kp hK (by simp)).cell]
       exact (hN _ _ hK rfl (hXb Lk ak ww _ (some 38) _ (by simp) (Below.refl _ _) hX))
     · intro Lk ak ww hL hdd haa hF hK hV hX Nk Qk hN; refine wnt rfl ?_
       simp [go_sem, (show ak.tmps[38]?.getD undef = _ from hV 7 _ rfl (hdd 7 rfl))]
       refine (toSpot_c nz ww).mono ?_
       rintro x wx ⟨rfl, hb⟩
       exact (hN _ _ (hK.call hb) rfl (hXb Lk ak ww _ (some 39) _ (by simp) hb hX))
     · intro Lk ak ww hL hdd haa hF hK hV hX Nk Qk hN
       obtain ⟨x0, x1, x2, x3⟩ := hX
       refine wnt rfl ?_
       obtain ⟨m1, ee1, f1⟩ := x0 (hdd 1 rfl)
       obtain ⟨m2, ee3, f2⟩ := x1 (hdd 3 rfl)
       simp [go_sem, ee1, ee3, (show ak.tmps[36]?.getD undef = _ from hV 5 _ rfl (hdd 5 rfl)), (show ak.tmps[37]?.getD undef = _ from hV 6 _ rfl (hdd 6 rfl)), (show ak.tmps[39]?.getD undef = _ from hV 8 _ rfl (hdd 8 rfl))]
       refine (sStep_c r p s wish nz m1 m2 ww (by have := dec_f q9; have := dec_f q20; (try unfold regionLen at *); omega) hin_r f1.sl f1.nil (by have := dec_f q9; have := dec_f q20; (try unfold regionLen at *); omega) hin_p.halves (f2.halves.out halfC_len) f2.halves.nilcap hin_s hin_nz).mono ?_
       rintro x wx ⟨rfl, hb⟩
       exact (hN _ _ (hK.call hb) rfl (hXb Lk ak ww _ (some 40) _ (by simp) hb ⟨x0, x1, x2, x3⟩))
     · exact fun Lk ak ww hL hdd haa hF hK hV hX Nk Qk hN => wnt rfl (wp_move rfl (ev (hV 9 _ rfl (hdd 9 rfl))) (hN _ _ hK rfl (hXb Lk ak ww _ (some 30) _ (by simp) (Below.refl _ _) hX)))
     · exact fun Lk ak ww hL hdd haa hF hK hV hX Nk Qk hN => wnt rfl (wp_extract rfl (ev (hV 10 _ rfl (hdd 10 rfl))) rfl (hN _ _ hK rfl (hXb Lk ak ww _ (some 41) _ (by simp) (Below.refl _ _) hX)))
     · exact fun Lk ak ww hL hdd haa hF hK hV hX Nk Qk hN => wnt rfl (wp_extract rfl (ev (hV 10 _ rfl (hdd 10 rfl))) rfl (hN _ _ hK rfl (hXb Lk ak ww _ (some 42) _ (by simp) (Below.refl _ _) hX)))
     · exact fun Lk ak ww hL hdd haa hF hK hV hX Nk Qk hN => wnt rfl (wp_extract rfl (ev (hV 10 _ rfl (hdd 10 rfl))) rfl (hN _ _ hK rfl (hXb Lk ak ww _ (some 43) _ (by simp) (Below.refl _ _) hX)))
     · intro Lk ak ww hL hdd haa hF hK hV hX Nk Qk hN
       obtain ⟨x0, x1, x2, x3⟩ := hX
       refine wnt rfl ?_
       simp [go_sem]
       exact hN _ _ (hK.alloc _) trivial ⟨(fun h => by rw [put_ne' (by decide)]; obtain ⟨m1', e, f1'⟩ := x0 h; exact ⟨m1', e, f1'.below (below_al (Below.refl _ _) _) (Nat.le_refl _)⟩), (fun h => by rw [put_ne' (by decide)]; obtain ⟨m2', e, f2'⟩ := x1 h; exact ⟨m2', e, f2'.below (below_al (Below.refl _ _) _) (Nat.le_refl _)⟩), (fun _ => by rw [show upd Lk 14 16 = false from haa 16 rfl]; exact BoxX.new (s := 12) (hF.lt (by rw [hz]; decide)) hK.size [.int .i64 0, .int .i64 0, .int .i64 0]), (fun h => ((x3 h).bel (below_al (Below.refl _ _) _) (fun _ h => h)).put (by decide) _)⟩
     · intro Lk ak ww hL hdd haa hF hK hV hX Nk Qk hN
       obtain ⟨x0, x1, x2, x3⟩ := hX
       refine wnt rfl ?_
       simp [go_sem]
       exact hN _ _ (hK.alloc _) trivial ⟨(fun h => by rw [put_ne' (by decide)]; obtain ⟨m1', e, f1'⟩ := x0 h; exact ⟨m1', e, f1'.below (below_al (Below.refl _ _) _) (Nat.le_refl _)⟩), (fun h => by rw [put_ne' (by decide)]; obtain ⟨m2', e, f2'⟩ := x1 h; exact ⟨m2', e, f2'.below (below_al (Below.refl _ _) _) (Nat.le_refl _)⟩), (fun h => ((x2 h).bel (below_al (Below.refl _ _) _) (fun _ h => h)).put (by decide) _), (fun _ => by rw [show upd Lk 15 17 = false from haa 17 rfl]; exact BoxX.new (s := 13) (hF.lt (by rw [hz]; decide)) hK.size [.int .i64 0, .int .i64 0])⟩
     · intro Lk ak ww hL hdd haa hF hK hV hX Nk Qk hN
       obtain ⟨x0, x1, x2, x3⟩ := hX
       refine wnt rfl ?_
       obtain ⟨g, eg, hg, y, _⟩ := x2 (hdd 14 rfl)
       have HT := y hL
       simp [go_sem, (show ak.tmps[41]?.getD undef = _ from hV 11 _ rfl (hdd 11 rfl)), eg, HT.cell, HT.frz]
       exact hN undef _ (hK.store (.inl hg) [.int .i64 (((stepL r p s wish nz).getD step0).1.x), .int .i64 (((stepL r p s wish nz).getD step0).1.y), .int .i64 (((stepL r p s wish nz).getD step0).1.d)] 0) trivial ⟨(fun h => by obtain ⟨m1', e, f1'⟩ := x0 h; exact ⟨m1', e, f1'.otherT HT (by decide) (by decide) [.int .i64 (((stepL r p s wish nz).getD step0).1.x), .int .i64 (((stepL r p s wish nz).getD step0).1.y), .int .i64 (((stepL r p s wish nz).getD step0).1.d)] 0⟩), (fun h => by obtain ⟨m2', e, f2'⟩ := x1 h; exact ⟨m2', e, f2'.otherT HT (by decide) [.int .i64 (((stepL r p s wish nz).getD step0).1.x), .int .i64 (((stepL r p s wish nz).getD step0).1.y), .int .i64 (((stepL r p s wish nz).getD step0).1.d)] 0⟩), (fun _ => BoxX.set eg hg HT (us := [.int .i64 (((stepL r p s wish nz).getD step0).1.x), .int .i64 (((stepL r p s wish nz).getD step0).1.y), .int .i64 (((stepL r p s wish nz).getD step0).1.d)]) rfl rfl), (fun h => (x3 h).othT HT (by decide) [.int .i64 (((stepL r p s wish nz).getD step0).1.x), .int .i64 (((stepL r p s wish nz).getD step0).1.y), .int .i64 (((stepL r p s wish nz).getD step0).1.d)] 0 (fun _ h => h))⟩
     · intro Lk ak ww hL hdd haa hF hK hV hX Nk Qk hN
       obtain ⟨x0, x1, x2, x3⟩ := hX
       refine wnt rfl ?_
       obtain ⟨g, eg, hg, y, _⟩ := x3 (hdd 15 rfl)
       have HT := y hL
       simp [go_sem, (show ak.tmps[42]?.getD undef = _ from hV 12 _ rfl (hdd 12 rfl)), eg, HT.cell, HT.frz]
       exact hN undef _ (hK.store (.inl hg) [.int .i64 (((stepL r p s wish nz).getD step0).2.n), .int .i64 (((stepL r p s wish nz).getD step0).2.d)] 0) trivial ⟨(fun h => by obtain ⟨m1', e, f1'⟩ := x0 h; exact ⟨m1', e, f1'.otherT HT (by decide) (by decide) [.int .i64 (((stepL r p s wish nz).getD step0).2.n), .int .i64 (((stepL r p s wish nz).getD step0).2.d)] 0⟩), (fun h => by obtain ⟨m2', e, f2'⟩ := x1 h; exact ⟨m2', e, f2'.otherT HT (by decide) [.int .i64 (((stepL r p s wish nz).getD step0).2.n), .int .i64 (((stepL r p s wish nz).getD step0).2.d)] 0⟩), (fun h => (x2 h).othT HT (by decide) [.int .i64 (((stepL r p s wish nz).getD step0).2.n), .int .i64 (((stepL r p s wish nz).getD step0).2.d)] 0 (fun _ h => h)), (fun _ => BoxX.set eg hg HT (us := [.int .i64 (((stepL r p s wish nz).getD step0).2.n), .int .i64 (((stepL r p s wish nz).getD step0).2.d)]) rfl rfl)⟩
     · exact fun Lk ak ww hL hdd haa hF hK hV hX Nk Qk hN => wnt rfl (wp_assign rfl (ev (hV 13 _ rfl (hdd 13 rfl))) (hN _ _ hK rfl (hXb Lk ak ww _ (some 14) _ (by simp) (Below.refl _ _) hX)))
     intro L a31 w32 hL hF hK hV hX
     obtain ⟨x0, x1, x2, x3⟩ := hX
     replace hz := hF.size.trans hz
     replace hdf := hF.defers.trans hdf
     replace s3 := hF.g rfl s3
     replace s5 := hF.g rfl s5
     replace s6 := hF.g rfl s6
     replace s7 := hF.g rfl s7
     replace s9 := hF.g rfl s9
     have s14 : a31.tmps[14]?.getD undef = .bool ((stepL r p s wish nz).isSome) := hV 18 _ rfl
     replace b3 := b3.kp hK (by simp)
     replace b4 := b4.kp hK (by simp)
     replace b5 := b5.kp hK (by simp)
     replace b6 := b6.kp hK (by simp)
     obtain ⟨g33, s12, lg33, -, b33⟩ := x2 (hL 14 (by decide))
     obtain ⟨_, b33, rfl⟩ := b33 (hL 16 (by decide))
     have ug33 := b33.lt
     obtain ⟨g34, s13, lg34, -, b34⟩ := x3 (hL 15 (by decide))
     obtain ⟨_, b34, rfl⟩ := b34 (hL 17 (by decide))
     have ug34 := b34.lt
     have ng33g34 := b33.ne b34 (by decide)
     have zw30 := hZ
     have zw32 := hK.size
     replace hZ := Nat.le_refl w32.heap.size
     replace hB := hK.below0 hB
     clear hF hK hV hL x0 x1 x2 x3 hXb s29
     refine th_n ?_
     refine wp_seq ?_
     refine wp_regJ (by kernel_rfl) [44, 45, 15, 0] [some (roomV r r_a), none, none, none] ((List.range 4).map List.range) [44, 45, 15] [0, 1, 2, 3] [] (fun L aa ww => (L 1 = true → (fun ww v => ∃ m3, v = roomV r m3 ∧ RoomNew ww w32.heap.size r m3) ww (aa.tmps[45]?.getD undef)) ∧ (L 2 = true → BoxX w32 aa ww 15 39 [.slice none 0 0, .int .i64 0, .int .i64 0, .int .i64 0, .int .i64 0, .int .i64 0, .slice none 0 0, .slice none 0 0] (L 3) (fun ww vs => ∃ m3, vs = (roomC r m3) ∧ RoomNew ww w32.heap.size r m3))) (by kernel_rfl) (by rw [hz]; decide) ?_ (ec ?_ (ec ?_ (ec ?_ (ec ?_ .nil)))) ?_
     · exact fun _ h => ⟨(fun h => by cases h), (fun h => by cases h)⟩
     · intro Lk ak ww hL hdd haa hF hK hV hX Nk Qk hN; refine wnt rfl ?_
       simp [go_sem, hF.g rfl s5, (b3.kp hK (by simp)).cell]
       exact (hN _ _ hK rfl ⟨(fun h => by rw [put_ne' (by decide)]; obtain ⟨m3', e, f3'⟩ := hX.1 h; exact ⟨m3', e, f3'.below (Below.refl _ _) (Nat.le_refl _)⟩), (fun h => ((hX.2 h).bel (Below.refl _ _) (fun _ ⟨m3', e, f3'⟩ => ⟨m3', e, f3'.below (Below.refl _ _) (Nat.le_refl _)⟩)).put (by decide) _)⟩)
     · intro Lk ak ww hL hdd haa hF hK hV hX Nk Qk hN
       obtain ⟨x0, x1⟩ := hX
       refine wnt rfl ?_
       simp [go_sem, (show ak.tmps[44]?.getD undef = _ from hV 0 _ rfl (hdd 0 rfl))]
       have hBi := hK.below0 hB
       refine (toRoom_c r r_a ww (by have := dec_f q9; have := dec_f q20; (try unfold regionLen at *); omega) (hs_r.below hBi)).mono ?_
       rintro x wx ⟨m3, rfl, f0, hb⟩
       have f3 := f0.mono hK.size
       exact (hN _ _ (hK.call hb) trivial ⟨(fun _ => by rw [put_get_self (hF.lt (by rw [hz]; decide))]; exact ⟨m3, rfl, f3⟩), (fun h => ((x1 h).bel hb (fun _ ⟨m3', e, f3'⟩ => ⟨m3', e, f3'.below hb (Nat.le_refl _)⟩)).put (by decide) _)⟩)
     · intro Lk ak ww hL hdd haa hF hK hV hX Nk Qk hN
       obtain ⟨x0, x1⟩ := hX
       refine wnt rfl ?_
       simp [go_sem]
       exact hN _ _ (hK.alloc _) trivial ⟨(fun h => by rw [put_ne' (by decide)]; obtain ⟨m3', e, f3'⟩ := x0 h; exact ⟨m3', e, f3'.below (below_al (Below.refl _ _) _) (Nat.le_refl _)⟩), (fun _ => by rw [show upd Lk 2 3 = false from haa 3 rfl]; exact BoxX.new (s := 15) (hF.lt (by rw [hz]; decide)) hK.size [.slice none 0 0, .int .i64 0, .int .i64 0, .int .i64 0, .int .i64 0, .int .i64 0, .slice none 0 0, .slice none 0 0])⟩
     · intro Lk ak ww hL hdd haa hF hK hV hX Nk Qk hN
       obtain ⟨x0, x1⟩ := hX
       refine wnt rfl ?_
       obtain ⟨m3, ee1, f3⟩ := x0 (hdd 1 rfl)
       obtain ⟨g, eg, hg, y, _⟩ := x1 (hdd 2 rfl)
       have HT := y hL
       simp [go_sem, ee1, eg, HT.cell, HT.frz]
       have f3 := f3.otherT HT (by decide) (by decide) [.slice m3.map.A r.map.length m3.map.c, .int .i64 r.div, .int .i64 r.bx, .int .i64 r.by_, .int .i64 r.low, .int .i64 r.high, .slice m3.noise.A r.noise.length m3.noise.c, .slice m3.limits.A r.limits.length m3.limits.c] 0
       exact hN undef _ (hK.store (.inl hg) [.slice m3.map.A r.map.length m3.map.c, .int .i64 r.div, .int .i64 r.bx, .int .i64 r.by_, .int .i64 r.low, .int .i64 r.high, .slice m3.noise.A r.noise.length m3.noise.c, .slice m3.limits.A r.limits.length m3.limits.c] 0) trivial ⟨(fun h => by obtain ⟨m3', e, f3'⟩ := x0 h; exact ⟨m3', e, f3'.otherT HT (by decide) (by decide) [.slice m3.map.A r.map.length m3.map.c, .int .i64 r.div, .int .i64 r.bx, .int .i64 r.by_, .int .i64 r.low, .int .i64 r.high, .slice m3.noise.A r.noise.length m3.noise.c, .slice m3.limits.A r.limits.length m3.limits.c] 0⟩), (fun _ => BoxX.set eg hg HT (us := [.slice m3.map.A r.map.length m3.map.c, .int .i64 r.div, .int .i64 r.bx, .int .i64 r.by_, .int .i64 r.low, .int .i64 r.high, .slice m3.noise.A r.noise.length m3.noise.c, .slice m3.limits.A r.limits.length m3.limits.c]) rfl ⟨m3, rfl, f3⟩)⟩
     intro L a35 w36 hL hF hK hV hX
     obtain ⟨x0, x1⟩ := hX
     replace hz := hF.size.trans hz
     replace hdf := hF.defers.trans hdf
     replace s3 := hF.g rfl s3
     replace s5 := hF.g rfl s5
     replace s6 := hF.g rfl s6
     replace s7 := hF.g rfl s7
     replace s9 := hF.g rfl s9
     replace s14 := hF.g rfl s14
     replace s12 := hF.g rfl s12
     replace s13 := hF.g rfl s13
     replace b3 := b3.kp hK (by simp)
     replace b4 := b4.kp hK (by simp)
     replace b5 := b5.kp hK (by simp)
     replace b6 := b6.kp hK (by simp)
     replace b33 := b33.kp hK (by simp)
     replace b34 := b34.kp hK (by simp)
     obtain ⟨g37, s15, lg37, -, b37⟩ := x1 (hL 2 (by decide))
     obtain ⟨_, b37, m3, rfl, N3⟩ := b37 (hL 3 (by decide))
     have ug37 := b37.lt
     have zw36 := hK.size
     replace hZ := Nat.le_refl w36.heap.size
     replace hB := hK.below0 hB
     clear hF hK hV hL x0 x1
     refine th_n ?_
     refine wp_seq ?_
     refine wp_regJ (by kernel_rfl) [46, 47, 16, 0] [some (.agg #[.slice p_a.A p.length p_a.c]), none, none, none] ((List.range 4).map List.range) [46, 47, 16] [0, 1, 2, 3] [] (fun L aa ww => (L 1 = true → (fun ww v => ∃ m4, v = .agg #[.slice m4.A p.length m4.c] ∧ RegionNew ww w36.heap.size p m4) ww (aa.tmps[47]?.getD undef)) ∧ (L 2 = true → BoxX w36 aa ww 16 37 [.slice none 0 0] (L 3) (fun ww vs => ∃ m4, vs = [.slice m4.A p.length m4.c] ∧ RegionNew ww w36.heap.size p m4))) (by kernel_rfl) (by rw [hz]; decide) ?_ (ec ?_ (ec ?_ (ec ?_ (ec ?_ .nil)))) ?_
     · exact fun _ h => ⟨(fun h => by cases h), (fun h => by cases h)⟩
     · intro Lk ak ww hL hdd haa hF hK hV hX Nk Qk hN; refine wnt rfl ?_
       simp [go_sem, hF.g rfl s6, (b4.kp hK (by simp)).cell]
       exact (hN _ _ hK rfl ⟨(fun h => by rw [put_ne' (by decide)]; obtain ⟨m4', e, f4'⟩ := hX.1 h; exact ⟨m4', e, f4'.below (Below.refl _ _) (Nat.le_refl _)⟩), (fun h => ((hX.2 h).bel (Below.refl _ _) (fun _ ⟨m4', e, f4'⟩ => ⟨m4', e, f4'.below (Below.refl _ _) (Nat.le_refl _)⟩)).put (by decide) _)⟩)
     · intro Lk ak ww hL hdd haa hF hK hV hX Nk Qk hN
       obtain ⟨x0, x1⟩ := hX
       refine wnt rfl ?_
       simp [go_sem, (show ak.tmps[46]?.getD undef = _ from hV 0 _ rfl (hdd 0 rfl))]
       have hBi := hK.below0 hB
       refine (toRegion_c p p_a ww (by have := dec_f q9; have := dec_f q20; (try unfold regionLen at *); omega) ⟨(hs_p.halves.below hBi)⟩).mono ?_
       rintro x wx ⟨m4, rfl, f0, hb⟩
       have f4 := f0.mono hK.size
       exact (hN _ _ (hK.call hb) trivial ⟨(fun _ => by rw [put_get_self (hF.lt (by rw [hz]; decide))]; exact ⟨m4, rfl, f4⟩), (fun h => ((x1 h).bel hb (fun _ ⟨m4', e, f4'⟩ => ⟨m4', e, f4'.below hb (Nat.le_refl _)⟩)).put (by decide) _)⟩)
     · intro Lk ak ww hL hdd haa hF hK hV hX Nk Qk hN
       obtain ⟨x0, x1⟩ := hX
       refine wnt rfl ?_
       simp [go_sem]
       exact hN _ _ (hK.alloc _) trivial ⟨(fun h => by rw [put_ne' (by decide)]; obtain ⟨m4', e, f4'⟩ := x0 h; exact ⟨m4', e, f4'.below (below_al (Below.refl _ _) _) (Nat.le_refl _)⟩), (fun _ => by rw [show upd Lk 2 3 = false from haa 3 rfl]; exact BoxX.new (s := 16) (hF.lt (by rw [hz]; decide)) hK.size [.slice none 0 0])⟩
     · intro Lk ak ww hL hdd haa hF hK hV hX Nk Qk hN
       obtain ⟨x0, x1⟩ := hX
       refine wnt rfl ?_
       obtain ⟨m4, ee1, f4⟩ := x0 (hdd 1 rfl)
       obtain ⟨g, eg, hg, y, _⟩ := x1 (hdd 2 rfl)
       have HT := y hL
       simp [go_sem, ee1, eg, HT.cell, HT.frz]
       have f4 := f4.otherT HT (by decide) [.slice m4.A p.length m4.c] 0
       exact hN undef _ (hK.store (.inl hg) [.slice m4.A p.length m4.c] 0) trivial ⟨(fun h => by obtain ⟨m4', e, f4'⟩ := x0 h; exact ⟨m4', e, f4'.otherT HT (by decide) [.slice m4.A p.length m4.c] 0⟩), (fun _ => BoxX.set eg hg HT (us := [.slice m4.A p.length m4.c]) rfl ⟨m4, rfl, f4⟩)⟩
     intro L a38 w39 hL hF hK hV hX
     obtain ⟨x0, x1⟩ := hX
     replace hz := hF.size.trans hz
     replace hdf := hF.defers.trans hdf
     replace s3 := hF.g rfl s3
     replace s5 := hF.g rfl s5
     replace s6 := hF.g rfl s6
     replace s7 := hF.g rfl s7
     replace s9 := hF.g rfl s9
     replace s14 := hF.g rfl s14
     replace s12 := hF.g rfl s12
     replace s13 := hF.g rfl s13
     replace s15 := hF.g rfl s15
     replace b3 := b3.kp hK (by simp)
     replace b4 := b4.kp hK (by simp)
     replace b5 := b5.kp hK (by simp)
     replace b6 := b6.kp hK (by simp)
     replace b33 := b33.kp hK (by simp)
     replace b34 := b34.kp hK (by simp)
     replace b37 := b37.kp hK (by simp)
     obtain ⟨g40, s16, lg40, -, b40⟩ := x1 (hL 2 (by decide))
     obtain ⟨_, b40, m4, rfl, N4⟩ := b40 (hL 3 (by decide))
     have ug40 := b40.lt
     replace N3 := N3.below hK.toBelow (Nat.le_refl _)
     have zw39 := hK.size
     replace hZ := Nat.le_refl w39.heap.size
     replace hB := hK.below0 hB
     clear hF hK hV hL x0 x1
     refine th_n ?_
     refine wp_seq ?_
     refine wp_regJ (by kernel_rfl) [49, 50, 51, 52, 53, 54, 55, 56, 48, 57, 58, 59, 17, 18, 0, 0, 19] [some (roomV r m3), some (.agg #[.slice m4.A p.length m4.c]), some (spotV s), some (spotV s), some (.int .i64 wish), some (spotV nz), some (spotV nz), some (.tuple #[spotV (((stepL r p s wish nz).getD step0).1), ratioV (((stepL r p s wish nz).getD step0).2), .bool ((stepL r p s wish nz).isSome)]), some (.tuple #[spotV (((stepL r p s wish nz).getD step0).1), ratioV (((stepL r p s wish nz).getD step0).2), .bool ((stepL r p s wish nz).isSome)]), some (spotV (((stepL r p s wish nz).getD step0).1)), some (ratioV (((stepL r p s wish nz).getD step0).2)), some (.bool ((stepL r p s wish nz).isSome)), none, none, none, none, some (.bool ((stepL r p s wish nz).isSome))] ([[], [], [], [2], [], [], [2, 3, 5], [0, 1, 2, 3, 4, 5, 6], [0, 1, 2, 3, 4, 5, 6, 7], [0, 1, 2, 3, 4, 5, 6, 7, 8], [0, 1, 2, 3, 4, 5, 6, 7, 8], [0, 1, 2, 3, 4, 5, 6, 7, 8], [], [], [0, 1, 2, 3, 4, 5, 6, 7, 8, 9, 12, 13], [0, 1, 2, 3, 4, 5, 6, 7, 8, 9, 10, 12, 13, 14], [0, 1, 2, 3, 4, 5, 6, 7, 8, 9, 10, 11, 12, 13, 14, 15]]) [49, 50, 51, 52, 53, 54, 55, 56, 48, 57, 58, 59, 17, 18, 19] [0, 1, 2, 3, 4, 5, 6, 7, 8, 9, 10, 11, 12, 13, 14, 15, 16] [] (fun L aa ww => (L 12 = true → BoxX w39 aa ww 17 57 [.int .i64 0, .int .i64 0, .int .i64 0] (L 14) (fun _ vs => vs = [.int .i64 (((stepL r p s wish nz).getD step0).1.x), .int .i64 (((stepL r p s wish nz).getD step0).1.y), .int .i64 (((stepL r p s wish nz).getD step0).1.d)])) ∧ (L 13 = true → BoxX w39 aa ww 18 52 [.int .i64 0, .int .i64 0] (L 15) (fun _ vs => vs = [.int .i64 (((stepL r p s wish nz).getD step0).2.n), .int .i64 (((stepL r p s wish nz).getD step0).2.d)]))) (by kernel_rfl) (by rw [hz]; decide) ?_ (ec ?_ (ec ?_ (ec ?_ (ec ?_ (ec ?_ (ec ?_ (ec ?_ (ec ?_ (ec ?_ (ec ?_ (ec ?_ (ec ?_ (ec ?_ (ec ?_ (ec ?_ (ec ?_ (ec ?_ .nil))))))))))))))))) ?_
     · exact fun _ h => ⟨(fun h => by cases h), (fun h => by cases h)⟩
     · intro Lk ak ww hL hdd haa hF hK hV hX Nk Qk hN; refine wnt rfl ?_
       simp [go_sem, hF.g rfl s15, (b37.kp hK (by simp)).cell]
       exact (hN _ _ hK rfl ⟨(fun h => ((hX.1 h).bel (Below.refl _ _) (fun _ h => h)).put (by decide) _), (fun h => ((hX.2 h).bel (Below.refl _ _) (fun _ h => h)).put (by decide) _)⟩)
     · intro Lk ak ww hL hdd haa hF hK hV hX Nk Qk hN; refine wnt rfl ?_
       simp [go_sem, hF.g rfl s16, (b40.kp hK (by simp)).cell]
       exact (hN _ _ hK rfl ⟨(fun h => ((hX.1 h).bel (Below.refl _ _) (fun _ h => h)).put (by decide) _), (fun h => ((hX.2 h).bel (Below.refl _ _) (fun _ h => h)).put (by decide) _)⟩)
     · intro Lk ak ww hL hdd haa hF hK hV hX Nk Qk hN; refine wnt rfl ?_
       simp [go_sem, hF.g rfl s7, (b5.kp hK (by simp)).cell]
       exact (hN _ _ hK rfl ⟨(fun h => ((hX.1 h).bel (Below.refl _ _) (fun _ h => h)).put (by decide) _), (fun h => ((hX.2 h).bel (Below.refl _ _) (fun _ h => h)).put (by decide) _)⟩)
     · intro Lk ak ww hL hdd haa hF hK hV hX Nk Qk hN; refine wnt rfl ?_
       simp [go_sem, (show ak.tmps[51]?.getD undef = _ from hV 2 _ rfl (hdd 2 rfl))]
       refine (toSpot_c s ww).mono ?_
       rintro x wx ⟨rfl, hb⟩
       exact (hN _ _ (hK.call hb) rfl ⟨(fun h => ((hX.1 h).bel hb (fun _ h => h)).put (by decide) _), (fun h => ((hX.2 h).bel hb (fun _ h => h)).put (by decide) _)⟩)
     · exact fun Lk ak ww hL hdd haa hF hK hV hX Nk Qk hN => wnt rfl (wp_move rfl (ev (hF.g rfl s3)) (hN _ _ hK rfl ⟨(fun h => ((hX.1 h).bel (Below.refl _ _) (fun _ h => h)).put (by decide) _), (fun h => ((hX.2 h).bel (Below.refl _ _) (fun _ h => h)).put (by decide) _)⟩))
     · intro Lk ak ww hL hdd haa hF hK hV hX Nk Qk hN; refine wnt rfl ?_
       simp [go_sem, hF.g rfl s9, (b6.kp hK (by simp)).cell]
       exact (hN _ _ hK rfl ⟨(fun h => ((hX.1 h).bel (Below.refl _ _) (fun _ h => h)).put (by decide) _), (fun h => ((hX.2 h).bel (Below.refl _ _) (fun _ h => h)).put (by decide) _)⟩)
     · intro Lk ak ww hL hdd haa hF hK hV hX Nk Qk hN; refine wnt rfl ?_
       simp [go_sem, (show ak.tmps[54]?.getD undef = _ from hV 5 _ rfl (hdd 5 rfl))]
       refine (toSpot_c nz ww).mono ?_
       rintro x wx ⟨rfl, hb⟩
       exact (hN _ _ (hK.call hb) rfl ⟨(fun h => ((hX.1 h).bel hb (fun _ h => h)).put (by decide) _), (fun h => ((hX.2 h).bel hb (fun _ h => h)).put (by decide) _)⟩)
     · intro Lk ak ww hL hdd haa hF hK hV hX Nk Qk hN; refine wnt rfl ?_
       simp [go_sem, (show ak.tmps[49]?.getD undef = _ from hV 0 _ rfl (hdd 0 rfl)), (show ak.tmps[50]?.getD undef = _ from hV 1 _ rfl (hdd 1 rfl)), (show ak.tmps[52]?.getD undef = _ from hV 3 _ rfl (hdd 3 rfl)), (show ak.tmps[53]?.getD undef = _ from hV 4 _ rfl (hdd 4 rfl)), (show ak.tmps[55]?.getD undef = _ from hV 6 _ rfl (hdd 6 rfl))]
       refine (iStep_c r p s wish nz m3 m4 ww (by have := dec_f q9; have := dec_f q20; (try unfold regionLen at *); omega) hin_r ((N3.below hK.toBelow (Nat.le_refl _)).sl) N3.nil (by have := dec_f q9; have := dec_f q20; (try unfold regionLen at *); omega) hin_p.halves ((N4.below hK.toBelow (Nat.le_refl _)).halves.out halfC_len) N4.halves.nilcap hin_s hin_nz).mono ?_
       rintro x wx ⟨rfl, hb⟩
       exact (hN _ _ (hK.call hb) rfl ⟨(fun h => ((hX.1 h).bel hb (fun _ h => h)).put (by decide) _), (fun h => ((hX.2 h).bel hb (fun _ h => h)).put (by decide) _)⟩)
     · exact fun Lk ak ww hL hdd haa hF hK hV hX Nk Qk hN => wnt rfl (wp_move rfl (ev (hV 7 _ rfl (hdd 7 rfl))) (hN _ _ hK rfl ⟨(fun h => ((hX.1 h).bel (Below.refl _ _) (fun _ h => h)).put (by decide) _), (fun h => ((hX.2 h).bel (Below.refl _ _) (fun _ h => h)).put (by decide) _)⟩))
     · exact fun Lk ak ww hL hdd haa hF hK hV hX Nk Qk hN => wnt rfl (wp_extract rfl (ev (hV 8 _ rfl (hdd 8 rfl))) rfl (hN _ _ hK rfl ⟨(fun h => ((hX.1 h).bel (Below.refl _ _) (fun _ h => h)).put (by decide) _), (fun h => ((hX.2 h).bel (Below.refl _ _) (fun _ h => h)).put (by decide) _)⟩))
     · exact fun Lk ak ww hL hdd haa hF hK hV hX Nk Qk hN => wnt rfl (wp_extract rfl (ev (hV 8 _ rfl (hdd 8 rfl))) rfl (hN _ _ hK rfl ⟨(fun h => ((hX.1 h).bel (Below.refl _ _) (fun _ h => h)).put (by decide) _), (fun h => ((hX.2 h).bel (Below.refl _ _) (fun _ h => h)).put (by decide) _)⟩))
     · exact fun Lk ak ww hL hdd haa hF hK hV hX Nk Qk hN => wnt rfl (wp_extract rfl (ev (hV 8 _ rfl (hdd 8 rfl))) rfl (hN _ _ hK rfl ⟨(fun h => ((hX.1 h).bel (Below.refl _ _) (fun _ h => h)).put (by decide) _), (fun h => ((hX.2 h).bel (Below.refl _ _) (fun _ h => h)).put (by decide) _)⟩))
     · intro Lk ak ww hL hdd haa hF hK hV hX Nk Qk hN
       obtain ⟨x0, x1⟩ := hX
       refine wnt rfl ?_
       simp [go_sem]
       exact hN _ _ (hK.alloc _) trivial ⟨(fun _ => by rw [show upd Lk 12 14 = false from haa 14 rfl]; exact BoxX.new (s := 17) (hF.lt (by rw [hz]; decide)) hK.size [.int .i64 0, .int .i64 0, .int .i64 0]), (fun h => ((x1 h).bel (below_al (Below.refl _ _) _) (fun _ h => h)).put (by decide) _)⟩
     · intro Lk ak ww hL hdd haa hF hK hV hX Nk Qk hN
       obtain ⟨x0, x1⟩ := hX
       refine wnt rfl ?_
       simp [go_sem]
       exact hN _ _ (hK.alloc _) trivial ⟨(fun h => ((x0 h).bel (below_al (Below.refl _ _) _) (fun _ h => h)).put (by decide) _), (fun _ => by rw [show upd Lk 13 15 = false from haa 15 rfl]; exact BoxX.new (s := 18) (hF.lt (by rw [hz]; decide)) hK.size [.int .i64 0, .int .i64 0])⟩
     · intro Lk ak ww hL hdd haa hF hK hV hX Nk Qk hN
       obtain ⟨x0, x1⟩ := hX
       refine wnt rfl ?_
       obtain ⟨g, eg, hg, y, _⟩ := x0 (hdd 12 rfl)
       have HT := y hL
       simp [go_sem, (show ak.tmps[57]?.getD undef = _ from hV 9 _ rfl (hdd 9 rfl)), eg, HT.cell, HT.frz]
       exact hN undef _ (hK.store (.inl hg) [.int .i64 (((stepL r p s wish nz).getD step0).1.x), .int .i64 (((stepL r p s wish nz).getD step0).1.y), .int .i64 (((stepL r p s wish nz).getD step0).1.d)] 0) trivial ⟨(fun _ => BoxX.set eg hg HT (us := [.int .i64 (((stepL r p s wish nz).getD step0).1.x), .int .i64 (((stepL r p s wish nz).getD step0).1.y), .int .i64 (((stepL r p s wish nz).getD step0).1.d)]) rfl rfl), (fun h => (x1 h).othT HT (by decide) [.int .i64 (((stepL r p s wish nz).getD step0).1.x), .int .i64 (((stepL r p s wish nz).getD step0).1.y), .int .i64 (((stepL r p s wish nz).getD step0).1.d)] 0 (fun _ h => h))⟩
     · intro Lk ak ww hL hdd haa hF hK hV hX Nk Qk hN
       obtain ⟨x0, x1⟩ := hX
       refine wnt rfl ?_
       obtain ⟨g, eg, hg, y, _⟩ := x1 (hdd 13 rfl)
       have HT := y hL
       simp [go_sem, (show ak.tmps[58]?.getD undef = _ from hV 10 _ rfl (hdd 10 rfl)), eg, HT.cell, HT.frz]
       exact hN undef _ (hK.store (.inl hg) [.int .i64 (((stepL r p s wish nz).getD step0).2.n), .int .i64 (((stepL r p s wish nz).getD step0).2.d)] 0) trivial ⟨(fun h => (x0 h).othT HT (by decide) [.int .i64 (((stepL r p s wish nz).getD step0).2.n), .int .i64 (((stepL r p s wish nz).getD step0).2.d)] 0 (fun _ h => h)), (fun _ => BoxX.set eg hg HT (us := [.int .i64 (((stepL r p s wish nz).getD step0).2.n), .int .i64 (((stepL r p s wish nz).getD step0).2.d)]) rfl rfl)⟩
     · exact fun Lk ak ww hL hdd haa hF hK hV hX Nk Qk hN => wnt rfl (wp_assign rfl (ev (hV 11 _ rfl (hdd 11 rfl))) (hN _ _ hK rfl ⟨(fun h => ((hX.1 h).bel (Below.refl _ _) (fun _ h => h)).put (by decide) _), (fun h => ((hX.2 h).bel (Below.refl _ _) (fun _ h => h)).put (by decide) _)⟩))
     intro L a41 w42 hL hF hK hV hX
     obtain ⟨x0, x1⟩ := hX
     replace hz := hF.size.trans hz
     replace hdf := hF.defers.trans hdf
     replace s5 := hF.g rfl s5
     replace s6 := hF.g rfl s6
     replace s14 := hF.g rfl s14
     replace s12 := hF.g rfl s12
     replace s13 := hF.g rfl s13
     replace s15 := hF.g rfl s15
     replace s16 := hF.g rfl s16
     have s19 : a41.tmps[19]?.getD undef = .bool ((stepL r p s wish nz).isSome) := hV 16 _ rfl
     replace b3 := b3.kp hK (by simp)
     replace b4 := b4.kp hK (by simp)
     replace b33 := b33.kp hK (by simp)
     replace b34 := b34.kp hK (by simp)
     replace b37 := b37.kp hK (by simp)
     replace b40 := b40.kp hK (by simp)
     obtain ⟨g43, s17, lg43, -, b43⟩ := x0 (hL 12 (by decide))
     obtain ⟨_, b43, rfl⟩ := b43 (hL 14 (by decide))
     have ug43 := b43.lt
     obtain ⟨g44, s18, lg44, -, b44⟩ := x1 (hL 13 (by decide))
     obtain ⟨_, b44, rfl⟩ := b44 (hL 15 (by decide))
     have ug44 := b44.lt
     have ng43g44 := b43.ne b44 (by decide)
     replace N3 := N3.below hK.toBelow (Nat.le_refl _)
     replace N4 := N4.below hK.toBelow (Nat.le_refl _)
     have zw42 := hK.size
     replace hZ := Nat.le_refl w42.heap.size
     replace hB := hK.below0 hB
     clear hF hK hV hL x0 x1 s3 s7 s9 b5 b6
     refine th_n ?_
     refine wp_seq ?_
     refine wp_seq ?_
     refine wp_regJ (by kernel_rfl) [60, 61, 62, 63, 64, 65, 66, 67, 68, 69, 70, 71, 72, 73, 74] [some (spotV (((stepL r p s wish nz).getD step0).1)), some (spotV (((stepL r p s wish nz).getD step0).1)), some (.bool true), some (.bool false), some (.bool false), some (ratioV (((stepL r p s wish nz).getD step0).2)), some (ratioV (((stepL r p s wish nz).getD step0).2)), some (.bool true), some (.bool false), some (.bool false), some (.bool false), some (.bool ((stepL r p s wish nz).isSome)), some (.bool ((stepL r p s wish nz).isSome)), some (.bool false), some (.bool false)] ((List.range 15).map List.range) [60, 61, 62, 63, 64, 65, 66, 67, 68, 69, 70, 71, 72, 73, 74] [0, 1, 2, 3, 4, 5, 6, 7, 8, 9, 10, 11, 12, 13, 14] [] (fun _ _ _ => True) (by kernel_rfl) (by rw [hz]; decide) ?_ (ec ?_ (ec ?_ (ec ?_ (ec ?_ (ec ?_ (ec ?_ (ec ?_ (ec ?_ (ec ?_ (ec ?_ (ec ?_ (ec ?_ (ec ?_ (ec ?_ (ec ?_ .nil))))))))))))))) ?_
     · exact fun _ _ => trivial
     · intro Lk ak ww hL hdd haa hF hK hV hX Nk Qk hN; refine wnt rfl ?_
       simp [go_sem, hF.g rfl s17, (b43.kp hK (by simp)).cell]
       exact (hN _ _ hK rfl trivial)
     · intro Lk ak ww hL hdd haa hF hK hV hX Nk Qk hN; refine wnt rfl ?_
       simp [go_sem, hF.g rfl s12, (b33.kp hK (by simp)).cell]
       exact (hN _ _ hK rfl trivial)
     · intro Lk ak ww hL hdd haa hF hK hV hX Nk Qk hN; refine wnt rfl ?_
       simp [go_sem, (show ak.tmps[60]?.getD undef = _ from hV 0 _ rfl (hdd 0 rfl)), (show ak.tmps[61]?.getD undef = _ from hV 1 _ rfl (hdd 1 rfl))]
       refine (eqSpot_t ((stepL r p s wish nz).getD step0).1 ww).mono ?_
       rintro x wx ⟨rfl, hb⟩
       exact (hN _ _ (hK.call hb) rfl trivial)
     · exact fun Lk ak ww hL hdd haa hF hK hV hX Nk Qk hN => wnt rfl (wp_not rfl (ev (hV 2 _ rfl (hdd 2 rfl))) (hN _ _ hK rfl trivial))
     · exact fun Lk ak ww hL hdd haa hF hK hV hX Nk Qk hN => wnt rfl (wp_move rfl (ev (hV 3 _ rfl (hdd 3 rfl))) (hN _ _ hK rfl trivial))
     · intro Lk ak ww hL hdd haa hF hK hV hX Nk Qk hN
       refine wnt_y rfl rfl rfl (hV 4 _ rfl (hdd 4 rfl)) ?_
       simp [go_sem, hF.g rfl s18, (b44.kp hK (by simp)).cell]
       exact (hN _ _ hK rfl trivial)
     · intro Lk ak ww hL hdd haa hF hK hV hX Nk Qk hN
       refine wnt_y rfl rfl rfl (hV 4 _ rfl (hdd 4 rfl)) ?_
       simp [go_sem, hF.g rfl s13, (b34.kp hK (by simp)).cell]
       exact (hN _ _ hK rfl trivial)
     · intro Lk ak ww hL hdd haa hF hK hV hX Nk Qk hN
       refine wnt_y rfl rfl rfl (hV 4 _ rfl (hdd 4 rfl)) ?_
       simp [go_sem, (show ak.tmps[65]?.getD undef = _ from hV 5 _ rfl (hdd 5 rfl)), (show ak.tmps[66]?.getD undef = _ from hV 6 _ rfl (hdd 6 rfl))]
       refine (eqRatio_t ((stepL r p s wish nz).getD step0).2 ww).mono ?_
       rintro x wx ⟨rfl, hb⟩
       exact (hN _ _ (hK.call hb) rfl trivial)
     · intro Lk ak ww hL hdd haa hF hK hV hX Nk Qk hN
       refine wnt_y rfl rfl rfl (hV 4 _ rfl (hdd 4 rfl)) ?_
       exact wp_not rfl (ev (hV 7 _ rfl (hdd 7 rfl))) (hN _ _ hK rfl trivial)
     · exact fun Lk ak ww hL hdd haa hF hK hV hX Nk Qk hN => wnt rfl (wp_pick rfl (ev (hV 4 _ rfl (hdd 4 rfl))) (fun h => by cases h) (fun _ => (ev (hV 8 _ rfl (hdd 8 rfl)))) (hN _ _ hK rfl trivial))
     · exact fun Lk ak ww hL hdd haa hF hK hV hX Nk Qk hN => wnt rfl (wp_move rfl (ev (hV 9 _ rfl (hdd 9 rfl))) (hN _ _ hK rfl trivial))
     · intro Lk ak ww hL hdd haa hF hK hV hX Nk Qk hN
       refine wnt_y rfl rfl rfl (hV 10 _ rfl (hdd 10 rfl)) ?_
       exact wp_move rfl (ev (hF.g rfl s19)) (hN _ _ hK rfl trivial)
     · intro Lk ak ww hL hdd haa hF hK hV hX Nk Qk hN
       refine wnt_y rfl rfl rfl (hV 10 _ rfl (hdd 10 rfl)) ?_
       exact wp_move rfl (ev (hF.g rfl s14)) (hN _ _ hK rfl trivial)
     · intro Lk ak ww hL hdd haa hF hK hV hX Nk Qk hN
       refine wnt_y rfl rfl rfl (hV 10 _ rfl (hdd 10 rfl)) ?_
       simp [go_sem, (show ak.tmps[71]?.getD undef = _ from hV 11 _ rfl (hdd 11 rfl)), (show ak.tmps[72]?.getD undef = _ from hV 12 _ rfl (hdd 12 rfl))]
       exact (hN _ _ hK rfl trivial)
     · exact fun Lk ak ww hL hdd haa hF hK hV hX Nk Qk hN => wnt rfl (wp_pick rfl (ev (hV 10 _ rfl (hdd 10 rfl))) (fun h => by cases h) (fun _ => (ev (hV 13 _ rfl (hdd 13 rfl)))) (hN _ _ hK rfl trivial))
     intro L a45 w46 hL hF hK hV hX
     replace hz := hF.size.trans hz
     replace hdf := hF.defers.trans hdf
     replace s5 := hF.g rfl s5
     replace s6 := hF.g rfl s6
     replace s15 := hF.g rfl s15
     replace s16 := hF.g rfl s16
     have s74 : a45.tmps[74]?.getD undef = .bool false := hV 14 _ rfl
     replace b3 := b3.kp hK (by simp)
     replace b4 := b4.kp hK (by simp)
     replace b37 := b37.kp hK (by simp)
     replace b40 := b40.kp hK (by simp)
     replace N3 := N3.below hK.toBelow (Nat.le_refl _)
     replace N4 := N4.below hK.toBelow (Nat.le_refl _)
     replace hZ := Nat.le_trans hZ hK.size
     replace hB := hK.below0 hB
     clear hF hK hV hL hX s14 s12 s13 s19 s17 s18 b33 b34 b43 b44
     refine th_n ?_
     refine wp_cond_false (ev s74) ?_
     refine wp_skip ?_
     refine th_n ?_
     refine wp_seq ?_
     refine wp_seq ?_
     refine wp_regJ (by kernel_rfl) [75, 76, 77, 78, 79] [some (roomV r m3), some (roomV r r_a), none, some (.bool true), some (.bool false)] ([[], [], [1], [0, 1, 2], [0, 1, 2, 3]]) [75, 76, 77, 78, 79] [0, 1, 2, 3, 4] [] (fun L aa ww => (L 2 = true → (fun ww v => ∃ m5, v = roomV r m5 ∧ RoomNew ww w46.heap.size r m5) ww (aa.tmps[77]?.getD undef))) (by kernel_rfl) (by rw [hz]; decide) ?_ (ec ?_ (ec ?_ (ec ?_ (ec ?_ (ec ?_ .nil))))) ?_
     · exact fun _ h => (fun h => by cases h)
     · intro Lk ak ww hL hdd haa hF hK hV hX Nk Qk hN; refine wnt rfl ?_
       simp [go_sem, hF.g rfl s15, (b37.kp hK (by simp)).cell]
       exact (hN _ _ hK rfl (fun h => by rw [put_ne' (by decide)]; obtain ⟨m5', e, f5'⟩ := hX h; exact ⟨m5', e, f5'.below (Below.refl _ _) (Nat.le_refl _)⟩))
     · intro Lk ak ww hL hdd haa hF hK hV hX Nk Qk hN; refine wnt rfl ?_
       simp [go_sem, hF.g rfl s5, (b3.kp hK (by simp)).cell]
       exact (hN _ _ hK rfl (fun h => by rw [put_ne' (by decide)]; obtain ⟨m5', e, f5'⟩ := hX h; exact ⟨m5', e, f5'.below (Below.refl _ _) (Nat.le_refl _)⟩))
     · intro Lk ak ww hL hdd haa hF hK hV hX Nk Qk hN
       have x0 := hX
       refine wnt rfl ?_
       simp [go_sem, (show ak.tmps[76]?.getD undef = _ from hV 1 _ rfl (hdd 1 rfl))]
       have hBi := hK.below0 hB
       refine (toRoom_c r r_a ww (by have := dec_f q9; have := dec_f q20; (try unfold regionLen at *); omega) (hs_r.below hBi)).mono ?_
       rintro x wx ⟨m5, rfl, f0, hb⟩
       have f5 := f0.mono hK.size
       exact (hN _ _ (hK.call hb) trivial (fun _ => by rw [put_get_self (hF.lt (by rw [hz]; decide))]; exact ⟨m5, rfl, f5⟩))
     · intro Lk ak ww hL hdd haa hF hK hV hX Nk Qk hN
       have x0 := hX
       refine wnt rfl ?_
       obtain ⟨m5, ee2, f5⟩ := x0 (hdd 2 rfl)
       simp [go_sem, (show ak.tmps[75]?.getD undef = _ from hV 0 _ rfl (hdd 0 rfl)), ee2]
       refine (eqRoom_t r m3 m5 ww (by have := dec_f q9; have := dec_f q20; (try unfold regionLen at *); omega) ((N3.below hK.toBelow (Nat.le_refl _)).sl) f5.sl).mono ?_
       rintro x wx ⟨rfl, hb⟩
       exact (hN _ _ (hK.call hb) rfl (fun h => by rw [put_ne' (by decide)]; obtain ⟨m5', e, f5'⟩ := x0 h; exact ⟨m5', e, f5'.below hb (Nat.le_refl _)⟩))
     · exact fun Lk ak ww hL hdd haa hF hK hV hX Nk Qk hN => wnt rfl (wp_not rfl (ev (hV 3 _ rfl (hdd 3 rfl))) (hN _ _ hK rfl (fun h => by rw [put_ne' (by decide)]; obtain ⟨m5', e, f5'⟩ := hX h; exact ⟨m5', e, f5'.below (Below.refl _ _) (Nat.le_refl _)⟩)))
     intro L a47 w48 hL hF hK hV hX
     have x0 := hX
     replace hz := hF.size.trans hz
     replace hdf := hF.defers.trans hdf
     replace s6 := hF.g rfl s6
     replace s16 := hF.g rfl s16
     have s79 : a47.tmps[79]?.getD undef = .bool false := hV 4 _ rfl
     replace b4 := b4.kp hK (by simp)
     replace b40 := b40.kp hK (by simp)
     replace N4 := N4.below hK.toBelow (Nat.le_refl _)
     replace hZ := Nat.le_trans hZ hK.size
     replace hB := hK.below0 hB
     clear hF hK hV hL x0 s5 s15 s74 b3 b37 N3
     refine th_n ?_
     refine wp_cond_false (ev s79) ?_
     refine wp_skip ?_
     refine th_n ?_
     refine wp_seq ?_
     refine wp_seq ?_
     refine wp_regJ (by kernel_rfl) [80, 81, 82, 83, 84] [some (.agg #[.slice m4.A p.length m4.c]), some (.agg #[.slice p_a.A p.length p_a.c]), none, some (.bool true), some (.bool false)] ([[], [], [1], [0, 1, 2], [0, 1, 2, 3]]) [80, 81, 82, 83, 84] [0, 1, 2, 3, 4] [] (fun L aa ww => (L 2 = true → (fun ww v => ∃ m6, v = .agg #[.slice m6.A p.length m6.c] ∧ RegionNew ww w48.heap.size p m6) ww (aa.tmps[82]?.getD undef))) (by kernel_rfl) (by rw [hz]; decide) ?_ (ec ?_ (ec ?_ (ec ?_ (ec ?_ (ec ?_ .nil))))) ?_
     · exact fun _ h => (fun h => by cases h)
     · intro Lk ak ww hL hdd haa hF hK hV hX Nk Qk hN; refine wnt rfl ?_
       simp [go_sem, hF.g rfl s16, (b40.kp hK (by simp)).cell]
       exact (hN _ _ hK rfl (fun h => by rw [put_ne' (by decide)]; obtain ⟨m6', e, f6'⟩ := hX h; exact ⟨m6', e, f6'.below (Below.refl _ _) (Nat.le_refl _)⟩))
     · intro Lk ak ww hL hdd haa hF hK hV hX Nk Qk hN; refine wnt rfl ?_
       simp [go_sem, hF.g rfl s6, (b4.kp hK (by simp)).cell]
       exact (hN _ _ hK rfl (fun h => by rw [put_ne' (by decide)]; obtain ⟨m6', e, f6'⟩ := hX h; exact ⟨m6', e, f6'.below (Below.refl _ _) (Nat.le_refl _)⟩))
     · intro Lk ak ww hL hdd haa hF hK hV hX Nk Qk hN
       have x0 := hX
       refine wnt rfl ?_
       simp [go_sem, (show ak.tmps[81]?.getD undef = _ from hV 1 _ rfl (hdd 1 rfl))]
       have hBi := hK.below0 hB
       refine (toRegion_c p p_a ww (by have := dec_f q9; have := dec_f q20; (try unfold regionLen at *); omega) ⟨(hs_p.halves.below hBi)⟩).mono ?_
       rintro x wx ⟨m6, rfl, f0, hb⟩
       have f6 := f0.mono hK.size
       exact (hN _ _ (hK.call hb) trivial (fun _ => by rw [put_get_self (hF.lt (by rw [hz]; decide))]; exact ⟨m6, rfl, f6⟩))
     · intro Lk ak ww hL hdd haa hF hK hV hX Nk Qk hN
       have x0 := hX
       refine wnt rfl ?_
       obtain ⟨m6, ee2, f6⟩ := x0 (hdd 2 rfl)
       simp [go_sem, (show ak.tmps[80]?.getD undef = _ from hV 0 _ rfl (hdd 0 rfl)), ee2]
       refine (eqRegion_t p m4 m6 ww (by have := dec_f q9; have := dec_f q20; (try unfold regionLen at *); omega) ⟨((N4.below hK.toBelow (Nat.le_refl _)).halves.out halfC_len)⟩ ⟨(f6.halves.out halfC_len)⟩).mono ?_
       rintro x wx ⟨rfl, hb⟩
       exact (hN _ _ (hK.call hb) rfl (fun h => by rw [put_ne' (by decide)]; obtain ⟨m6', e, f6'⟩ := x0 h; exact ⟨m6', e, f6'.below hb (Nat.le_refl _)⟩))
     · exact fun Lk ak ww hL hdd haa hF hK hV hX Nk Qk hN => wnt rfl (wp_not rfl (ev (hV 3 _ rfl (hdd 3 rfl))) (hN _ _ hK rfl (fun h => by rw [put_ne' (by decide)]; obtain ⟨m6', e, f6'⟩ := hX h; exact ⟨m6', e, f6'.below (Below.refl _ _) (Nat.le_refl _)⟩)))
     intro L a49 w50 hL hF hK hV hX
     have x0 := hX
     replace hz := hF.size.trans hz
     replace hdf := hF.defers.trans hdf
     have s84 : a49.tmps[84]?.getD undef = .bool false := hV 4 _ rfl
     replace hZ := Nat.le_trans hZ hK.size
     replace hB := hK.below0 hB
     clear hF hK hV hL x0 s6 s16 s79 b4 b40 N4
     refine th_n ?_
     refine wp_cond_false (ev s84) ?_
     refine wp_skip ?_
     refine th_n ?_
     refine wp_seq ?_
     refine wp_regJ (by kernel_rfl) [10] [some (.bool true)] ((List.range 1).map List.range) [10] [0] [] (fun _ _ _ => True) (by kernel_rfl) (by rw [hz]; decide) ?_ (ec ?_ .nil) ?_
     · exact fun _ _ => trivial
     · exact fun Lk ak ww hL hdd haa hF hK hV hX Nk Qk hN => wnt rfl (wp_assign rfl rfl (hN _ _ hK rfl trivial))
     intro L a51 w52 hL hF hK hV hX
     replace hz := hF.size.trans hz
     replace hdf := hF.defers.trans hdf
     have s10 : a51.tmps[10]?.getD undef = .bool true := hV 0 _ rfl
     replace hZ := Nat.le_trans hZ hK.size
     replace hB := hK.below0 hB
     clear hF hK hV hL hX s84
     refine th_n ?_
     refine wp_ret ?_
     refine bodyPost_ret (v := .bool true) (by simp [results, Tryz.results9, go_sem, s10]) hdf ?_
     exact ⟨rfl, hB⟩

set_option maxRecDepth 100000 in
theorem lifted_StepLoop (os : Os) (started : os.Started) (H : Type) (enc : TypeId × Value → H) :
    ReturnsInHanded {} Tryz.checked os 9 .any (Rows.fnExactStepLoopSpec.pre6 enc Tryz.prog Tryz.f9 Rows.fnExactStepLoopRow.domain false) (Rows.fnExactStepLoopSpec.post enc Tryz.prog Tryz.f9 false true false false) := by
  refine returnsInHanded_of_change (C := Tryz.checked) own_ started (by kernel_rfl) Tryz.func9
    (ChangeSpec.witness6 (enc := enc) (C := Tryz.checked) false ⟨#[], #[.agg #[.slice none 0 0, .int .i64 0, .int .i64 0, .int .i64 0, .int .i64 0, .int .i64 0, .slice none 0 0, .slice none 0 0], .agg #[.slice none 0 0], .agg #[.int .i64 0, .int .i64 0, .int .i64 0], .int .i64 0, .agg #[.int .i64 0, .int .i64 0, .int .i64 0]], []⟩ 8 (by kernel_rfl) (by kernel_rfl) (by kernel_rfl) (by kernel_rfl)) ?_
  intro W base args ds gs before hval0 hW hcnd _
  have hval : ∀ (j : Nat) t v, Tryz.f9.params[j]? = some t → args[j]? = some v → Value.okWide Tryz.prog W .any base t v := hval0
  have hW' := hW
  obtain ⟨p, q, hA0, hV, rfl, hfz, hnd⟩ := hW
  have hA : DataW.TrodAll enc Tryz.prog W 0 (fun _ => true) true Tryz.f9.params.toList args.toList ds p := hA0
  rw [Tryz.params9] at hA hval
  obtain ⟨v0, vs0, d0, ds0, p0, q0, hargs, rfl, rfl, h0, r0⟩ := trodAll_cons hA
  obtain ⟨v1, vs1, d1, ds1, p1, q1, rfl, rfl, rfl, h1, r1⟩ := trodAll_cons r0
  obtain ⟨v2, vs2, d2, ds2, p2, q2, rfl, rfl, rfl, h2, r2⟩ := trodAll_cons r1
  obtain ⟨v3, vs3, d3, ds3, p3, q3, rfl, rfl, rfl, h3, r3⟩ := trodAll_cons r2
  obtain ⟨v4, vs4, d4, ds4, p4, q4, rfl, rfl, rfl, h4, r4⟩ := trodAll_cons r3
  obtain ⟨rfl, rfl, rfl⟩ := trodAll_nil r4
  obtain rfl : args = #[v0, v1, v2, v3, v4] := by cases args; simp_all
  obtain ⟨rfl, rfl⟩ := trodVars_none hV
  have k0 := h0
  have lt0 : ∀ x ∈ p0, x.block < W.heap.size := by obtain ⟨m, hm⟩ := k0; exact DataW.trod_lt m _ _ _ hm
  have ok0 := hval 0 27 v0 rfl rfl
  have k1 := h1
  have lt1 : ∀ x ∈ p1, x.block < W.heap.size := by obtain ⟨m, hm⟩ := k1; exact DataW.trod_lt m _ _ _ hm
  have ok1 := hval 1 25 v1 rfl rfl
  have k2 := h2
  have lt2 : ∀ x ∈ p2, x.block < W.heap.size := by obtain ⟨m, hm⟩ := k2; exact DataW.trod_lt m _ _ _ hm
  have ok2 := hval 2 50 v2 rfl rfl
  have k3 := h3
  have lt3 : ∀ x ∈ p3, x.block < W.heap.size := by obtain ⟨m, hm⟩ := k3; exact DataW.trod_lt m _ _ _ hm
  have ok3 := hval 3 3 v3 rfl rfl
  have k4 := h4
  have lt4 : ∀ x ∈ p4, x.block < W.heap.size := by obtain ⟨m, hm⟩ := k4; exact DataW.trod_lt m _ _ _ hm
  have ok4 := hval 4 50 v4 rfl rfl
  obtain ⟨r, r_a, hin_r, rfl, hl_r, hs_r⟩ := openRoom ok0 h0
  obtain ⟨p, p_a, hin_p, rfl, hl_p, hs_p⟩ := openRegion ok1 h1
  obtain ⟨s, hin_s, rfl⟩ := openSpot ok2 h2
  obtain ⟨wish, hin_wish, rfl⟩ := open_int1 Tryz.underlying3 ok3 h3
  obtain ⟨nz, hin_nz, rfl⟩ := openSpot ok4 h4
  refine (walkStepLoop W r r_a hin_r hl_r hs_r p p_a hin_p hl_p hs_p s hin_s wish hin_wish nz hin_nz).mono fun e W' ⟨he, bel⟩ => ?_
  subst he
  exact ⟨_, rfl, _, _, _, [], _, [], hW', trodAll_mk1 (shut_bool Tryz.underlying4 _), (trodAll_cons_mk (Below.trod laidOut_ (by kernel_rfl) (of_decide_eq_true (by kernel_rfl)) k0 bel lt0) (trodAll_cons_mk (Below.trod laidOut_ (by kernel_rfl) (of_decide_eq_true (by kernel_rfl)) k1 bel lt1) (trodAll_cons_mk (Below.trod laidOut_ (by kernel_rfl) (of_decide_eq_true (by kernel_rfl)) k2 bel lt2) (trodAll_cons_mk (Below.trod laidOut_ (by kernel_rfl) (of_decide_eq_true (by kernel_rfl)) k3 bel lt3) (trodAll_cons_mk (Below.trod laidOut_ (by kernel_rfl) (of_decide_eq_true (by kernel_rfl)) k4 bel lt4) trodAll_mk0))))), rfl, bel.frame _, fun h => by cases h⟩

/-- The statement. -/
theorem law_StepLoop : Rows.FnExactStepLoopSaid :=
  OpenClaim.holds_of_wide 9 Tryz.f9 rfl rfl rfl rfl rfl rfl rfl ⟨rfl, rfl, rfl, rfl, rfl⟩ rfl rfl rfl rfl rfl (by kernel_rfl) Tryz.func9 (by kernel_rfl)
    (of_decide_eq_true (by kernel_rfl)) (by unfold Func.isWrapper; first | (rw [if_pos (by decide +kernel)]; kernel_rfl) | (rw [if_neg (by decide +kernel)]; exact ⟨rfl, rfl⟩))
    (fun os started H enc _ => lifted_StepLoop os started H enc)
#print axioms law_StepLoop
end Go.Proofs.YtdncnhcffbgjhaaGreat
