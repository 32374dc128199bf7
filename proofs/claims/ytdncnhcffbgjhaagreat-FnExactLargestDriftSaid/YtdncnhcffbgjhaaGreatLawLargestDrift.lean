/-
  For every input FnExactLargestDrift returns true: the program's LargestDrift and the reference's agree.
  Conditions: none.
-/
import Derived.Test.YtdncnhcffbgjhaaGreatV2
import Derived.Test.YtdncnhcffbgjhaaGreatGrO
import Derived.Test.YtdncnhcffbgjhaaGreatLat
import Derived.Test.YtdncnhcffbgjhaaGreatInv2
namespace Go.Proofs.YtdncnhcffbgjhaaGreat
open Go.RowKit Go.ChangeShapes Go.WideShapes Go.ChangeAt Go.Deep

set_option maxRecDepth 100000 in
set_option maxHeartbeats 8000000 in
theorem walkLargestDrift (w : World) (r : Room) (r_a : RoomA) (hin_r : RoomIn r) (hl_r : List.length r.map ≤ 9223372036854775807 ∧ List.length r.noise ≤ 9223372036854775807 ∧ List.length r.limits ≤ 9223372036854775807) (hs_r : RoomSl w r r_a) (p : List Half) (p_a : SlA) (hin_p : RegionIn p) (hl_p : List.length p ≤ 9223372036854775807) (hs_p : RegionSl w p p_a) (s : Spot) (hin_s : s.In) (most : Int) (_hin_most : In64 most) :
    Calls Tryz.prog 5 #[roomV r r_a, .agg #[.slice p_a.A p.length p_a.c], .agg #[.int .i64 s.x, .int .i64 s.y, .int .i64 s.d], .int .i64 most] w fun e w' => e = .returned (.bool true) ∧ Below w.heap.size w w' := by
 refine calls_v Tryz.func5 rfl (n := 55) Tryz.ntmps5 (by simp) ?_
 intro a0 hz hdf ha
 have s0 : a0.tmps[0]?.getD undef = roomV r r_a := ha 0 _ rfl
 have s1 : a0.tmps[1]?.getD undef = .agg #[.slice p_a.A p.length p_a.c] := ha 1 _ rfl
 have s2 : a0.tmps[2]?.getD undef = .agg #[.int .i64 s.x, .int .i64 s.y, .int .i64 s.d] := ha 2 _ rfl
 have s3 : a0.tmps[3]?.getD undef = .int .i64 most := ha 3 _ rfl
 clear ha
 have hB := Below.refl w.heap.size w
 have hZ := Nat.le_refl w.heap.size
 refine wp_seq ?_
 refine wp_entry [4, 5, 6, 8] [.pointer (some ⟨w.heap.size, 0, none⟩), .pointer (some ⟨(w.heap.size + 1), 0, none⟩), .pointer (some ⟨(w.heap.size + 2), 0, none⟩), .bool false] [some (.cells (roomC r r_a).toArray 27), some (.cells [.slice p_a.A p.length p_a.c].toArray 25), some (.cells [.int .i64 s.x, .int .i64 s.y, .int .i64 s.d].toArray 50), none] [0, 1, 2, 3] [4, 5, 6, 8] [0, 1, 2, 3] (by kernel_rfl) (by rw [hz]; decide) (.cons ?_ (.cons ?_ (.cons ?_ (.cons ?_ .nil)))) ?_
 · intro a w' hF hs N Q hN; simp [go_sem, Array.getD_eq_getD_getElem?, hF.g rfl s0]; rw [hs]; exact hN
 · intro a w' hF hs N Q hN; simp [go_sem, Array.getD_eq_getD_getElem?, hF.g rfl s1]; rw [hs]; exact hN
 · intro a w' hF hs N Q hN; simp [go_sem, Array.getD_eq_getD_getElem?, hF.g rfl s2]; rw [hs]; exact hN
 · intro a w' hF hs N Q hN; simp [go_sem]; exact hN
 intro a1 w2 hF hV hb hO
 replace hz := hF.size.trans hz
 replace hdf := hF.defers.trans hdf
 replace s3 := hF.g rfl s3
 have s4 : a1.tmps[4]?.getD undef = .pointer (some ⟨w.heap.size, 0, none⟩) := hV 0 (by decide)
 have s5 : a1.tmps[5]?.getD undef = .pointer (some ⟨(w.heap.size + 1), 0, none⟩) := hV 1 (by decide)
 have s6 : a1.tmps[6]?.getD undef = .pointer (some ⟨(w.heap.size + 2), 0, none⟩) := hV 2 (by decide)
 have b3 : HasT w2 w.heap.size 27 (roomC r r_a) := hO 0 _ rfl
 have b4 : HasT w2 (w.heap.size + 1) 25 [.slice p_a.A p.length p_a.c] := hO 1 _ rfl
 have b5 : HasT w2 (w.heap.size + 2) 50 [.int .i64 s.x, .int .i64 s.y, .int .i64 s.d] := hO 2 _ rfl
 have hG := b5.lt
 replace hB := below_tr hB hb
 have zw2 := Nat.le_trans hZ hb.size
 replace hZ := Nat.le_refl w2.heap.size
 clear hF hV hb hO s0 s1 s2
 refine th_n ?_
 refine wp_seq ?_
 refine wp_regJ (by kernel_rfl) [9] [some (.int .i64 1048576)] ((List.range 1).map List.range) [9] [0] [] (fun _ _ _ => True) (by kernel_rfl) (by rw [hz]; decide) ?_ (.cons ?_ .nil) ?_
 · exact fun _ _ => trivial
 · intro Lk ak ww hL hdd haa hF hK hV hX Nk Qk hN; refine wnt rfl ?_
   exact wp_assign rfl rfl (hN _ _ hK rfl trivial)
 intro L a6 w7 hL hF hK hV hX
 replace hz := hF.size.trans hz
 replace hdf := hF.defers.trans hdf
 replace s3 := hF.g rfl s3
 replace s4 := hF.g rfl s4
 replace s5 := hF.g rfl s5
 replace s6 := hF.g rfl s6
 have s9 : a6.tmps[9]?.getD undef = .int .i64 1048576 := hV 0 _ rfl
 replace b3 := b3.kp hK (by simp)
 replace b4 := b4.kp hK (by simp)
 replace b5 := b5.kp hK (by simp)
 replace hZ := Nat.le_trans hZ hK.size
 replace hB := hK.below0 hB
 clear hF hK hV hL hX
 refine th_n ?_
 refine wp_seq ?_
 rcases Bool.eq_false_or_eq_true (decide (1048576 - ((roomLen r : Nat) : Int) < 0)) with q8 | q8
 · skip
   refine wp_regJ (by kernel_rfl) [14, 15, 16, 9] [some (roomV r r_a), some (.int .i64 1048576), some (.int .i64 (-1)), some (.int .i64 (-1))] ((List.range 4).map List.range) [14, 15, 16, 9] [0, 1, 2, 3] [] (fun L aa ww => (L 3 = false → aa.tmps[9]?.getD undef = .int .i64 1048576)) (by kernel_rfl) (by rw [hz]; decide) ?_ (.cons ?_ (.cons ?_ (.cons ?_ (.cons ?_ .nil)))) ?_
   · exact fun _ h => (fun _ => s9)
   · intro Lk ak ww hL hdd haa hF hK hV hX Nk Qk hN; refine wnt rfl ?_
     simp [go_sem, Array.getD_eq_getD_getElem?, hF.g rfl s4, (b3.kp hK (by simp)).cell]
     exact (hN _ _ hK rfl (fun h => (put_ne' (by decide) _).trans (hX h)))
   · intro Lk ak ww hL hdd haa hF hK hV hX Nk Qk hN
     have x0 := hX
     refine wnt rfl ?_
     exact wp_move rfl (ev (x0 (haa 3 rfl))) (hN _ _ hK rfl (fun h => (put_ne' (by decide) _).trans (x0 h)))
   · intro Lk ak ww hL hdd haa hF hK hV hX Nk Qk hN; refine wnt rfl ?_
     simp [go_sem, Array.getD_eq_getD_getElem?, (show ak.tmps[14]?.getD undef = _ from hV 0 _ rfl (hdd 0 rfl)), (show ak.tmps[15]?.getD undef = _ from hV 1 _ rfl (hdd 1 rfl))]
     refine (szRoom_c r r_a 1048576 ww hl_r (by omega) (by omega)).mono ?_
     rintro x wx ⟨rfl, hb⟩
     exact (hN _ _ (hK.call hb) (congrArg (Value.int .i64) (if_pos (dec_t q8))) (fun h => (put_ne' (by decide) _).trans (hX h)))
   · intro Lk ak ww hL hdd haa hF hK hV hX Nk Qk hN
     have x0 := hX
     refine wnt rfl ?_
     exact wp_assign rfl (ev (hV 2 _ rfl (hdd 2 rfl))) (hN _ _ hK rfl (fun h => by cases h))
   intro L a9 w10 hL hF hK hV hX
   have x0 := hX
   replace hz := hF.size.trans hz
   replace hdf := hF.defers.trans hdf
   replace s3 := hF.g rfl s3
   replace s4 := hF.g rfl s4
   replace s5 := hF.g rfl s5
   replace s6 := hF.g rfl s6
   have s9 : a9.tmps[9]?.getD undef = .int .i64 (-1) := hV 3 _ rfl
   replace b3 := b3.kp hK (by simp)
   replace b4 := b4.kp hK (by simp)
   replace b5 := b5.kp hK (by simp)
   replace hZ := Nat.le_trans hZ hK.size
   replace hB := hK.below0 hB
   clear hF hK hV hL x0
   refine th_n ?_
   refine wp_seq ?_
   refine wp_seq ?_
   refine wp_regJ (by kernel_rfl) [17, 18] [some (.int .i64 (-1)), some (.bool true)] ((List.range 2).map List.range) [17, 18] [0, 1] [] (fun _ _ _ => True) (by kernel_rfl) (by rw [hz]; decide) ?_ (.cons ?_ (.cons ?_ .nil)) ?_
   · exact fun _ _ => trivial
   · intro Lk ak ww hL hdd haa hF hK hV hX Nk Qk hN; refine wnt rfl ?_
     exact wp_move rfl (ev (hF.g rfl s9)) (hN _ _ hK rfl trivial)
   · intro Lk ak ww hL hdd haa hF hK hV hX Nk Qk hN; refine wnt rfl ?_
     exact wp_bin rfl (ev (hV 0 _ rfl (hdd 0 rfl))) rfl rfl rfl (hN _ _ hK rfl trivial)
   intro L a11 w12 hL hF hK hV hX
   replace hz := hF.size.trans hz
   replace hdf := hF.defers.trans hdf
   replace s3 := hF.g rfl s3
   replace s4 := hF.g rfl s4
   replace s5 := hF.g rfl s5
   replace s6 := hF.g rfl s6
   replace s9 := hF.g rfl s9
   have s18 : a11.tmps[18]?.getD undef = .bool true := hV 1 _ rfl
   replace b3 := b3.kp hK (by simp)
   replace b4 := b4.kp hK (by simp)
   replace b5 := b5.kp hK (by simp)
   replace hZ := Nat.le_trans hZ hK.size
   replace hB := hK.below0 hB
   clear hF hK hV hL hX
   refine th_n ?_
   refine wp_cond_true (ev s18) ?_
   refine wp_seq ?_
   refine wp_regJ (by kernel_rfl) [8] [some (.bool true)] ((List.range 1).map List.range) [8] [0] [] (fun _ _ _ => True) (by kernel_rfl) (by rw [hz]; decide) ?_ (.cons ?_ .nil) ?_
   · exact fun _ _ => trivial
   · intro Lk ak ww hL hdd haa hF hK hV hX Nk Qk hN; refine wnt rfl ?_
     exact wp_assign rfl rfl (hN _ _ hK rfl trivial)
   intro L a13 w14 hL hF hK hV hX
   replace hz := hF.size.trans hz
   replace hdf := hF.defers.trans hdf
   have s8 : a13.tmps[8]?.getD undef = .bool true := hV 0 _ rfl
   replace hZ := Nat.le_trans hZ hK.size
   replace hB := hK.below0 hB
   clear hF hK hV hL hX s3 s4 s5 s6 s9 s18 b3 b4 b5
   refine th_n ?_
   refine wp_ret ?_
   refine th_r ?_
   refine bodyPost_ret (v := .bool true) (by simp [results, Tryz.results5, go_sem, Array.getD_eq_getD_getElem?, s8]) hdf ?_
   exact ⟨rfl, hB⟩
 · skip
   refine wp_regJ (by kernel_rfl) [14, 15, 16, 9] [some (roomV r r_a), some (.int .i64 1048576), some (.int .i64 (1048576 - ((roomLen r : Nat) : Int))), some (.int .i64 (1048576 - ((roomLen r : Nat) : Int)))] ((List.range 4).map List.range) [14, 15, 16, 9] [0, 1, 2, 3] [] (fun L aa ww => (L 3 = false → aa.tmps[9]?.getD undef = .int .i64 1048576)) (by kernel_rfl) (by rw [hz]; decide) ?_ (.cons ?_ (.cons ?_ (.cons ?_ (.cons ?_ .nil)))) ?_
   · exact fun _ h => (fun _ => s9)
   · intro Lk ak ww hL hdd haa hF hK hV hX Nk Qk hN; refine wnt rfl ?_
     simp [go_sem, Array.getD_eq_getD_getElem?, hF.g rfl s4, (b3.kp hK (by simp)).cell]
     exact (hN _ _ hK rfl (fun h => (put_ne' (by decide) _).trans (hX h)))
   · intro Lk ak ww hL hdd haa hF hK hV hX Nk Qk hN
     have x0 := hX
     refine wnt rfl ?_
     exact wp_move rfl (ev (x0 (haa 3 rfl))) (hN _ _ hK rfl (fun h => (put_ne' (by decide) _).trans (x0 h)))
   · intro Lk ak ww hL hdd haa hF hK hV hX Nk Qk hN; refine wnt rfl ?_
     simp [go_sem, Array.getD_eq_getD_getElem?, (show ak.tmps[14]?.getD undef = _ from hV 0 _ rfl (hdd 0 rfl)), (show ak.tmps[15]?.getD undef = _ from hV 1 _ rfl (hdd 1 rfl))]
     refine (szRoom_c r r_a 1048576 ww hl_r (by omega) (by omega)).mono ?_
     rintro x wx ⟨rfl, hb⟩
     exact (hN _ _ (hK.call hb) (congrArg (Value.int .i64) (if_neg (dec_f q8))) (fun h => (put_ne' (by decide) _).trans (hX h)))
   · intro Lk ak ww hL hdd haa hF hK hV hX Nk Qk hN
     have x0 := hX
     refine wnt rfl ?_
     exact wp_assign rfl (ev (hV 2 _ rfl (hdd 2 rfl))) (hN _ _ hK rfl (fun h => by cases h))
   intro L a15 w16 hL hF hK hV hX
   have x0 := hX
   replace hz := hF.size.trans hz
   replace hdf := hF.defers.trans hdf
   replace s3 := hF.g rfl s3
   replace s4 := hF.g rfl s4
   replace s5 := hF.g rfl s5
   replace s6 := hF.g rfl s6
   have s9 : a15.tmps[9]?.getD undef = .int .i64 (1048576 - ((roomLen r : Nat) : Int)) := hV 3 _ rfl
   replace b3 := b3.kp hK (by simp)
   replace b4 := b4.kp hK (by simp)
   replace b5 := b5.kp hK (by simp)
   replace hZ := Nat.le_trans hZ hK.size
   replace hB := hK.below0 hB
   clear hF hK hV hL x0
   refine th_n ?_
   refine wp_seq ?_
   refine wp_seq ?_
   refine wp_regJ (by kernel_rfl) [17, 18] [some (.int .i64 (1048576 - ((roomLen r : Nat) : Int))), some (.bool (decide (1048576 - ((roomLen r : Nat) : Int) < 0)))] ((List.range 2).map List.range) [17, 18] [0, 1] [] (fun _ _ _ => True) (by kernel_rfl) (by rw [hz]; decide) ?_ (.cons ?_ (.cons ?_ .nil)) ?_
   · exact fun _ _ => trivial
   · intro Lk ak ww hL hdd haa hF hK hV hX Nk Qk hN; refine wnt rfl ?_
     exact wp_move rfl (ev (hF.g rfl s9)) (hN _ _ hK rfl trivial)
   · intro Lk ak ww hL hdd haa hF hK hV hX Nk Qk hN; refine wnt rfl ?_
     exact wp_bin rfl (ev (hV 0 _ rfl (hdd 0 rfl))) rfl rfl rfl (hN _ _ hK rfl trivial)
   intro L a17 w18 hL hF hK hV hX
   replace hz := hF.size.trans hz
   replace hdf := hF.defers.trans hdf
   replace s3 := hF.g rfl s3
   replace s4 := hF.g rfl s4
   replace s5 := hF.g rfl s5
   replace s6 := hF.g rfl s6
   replace s9 := hF.g rfl s9
   have s18 : a17.tmps[18]?.getD undef = .bool (decide (1048576 - ((roomLen r : Nat) : Int) < 0)) := hV 1 _ rfl
   replace b3 := b3.kp hK (by simp)
   replace b4 := b4.kp hK (by simp)
   replace b5 := b5.kp hK (by simp)
   replace hZ := Nat.le_trans hZ hK.size
   replace hB := hK.below0 hB
   clear hF hK hV hL hX
   refine th_n ?_
   refine wp_cond_false (ev (vb s18 q8)) ?_
   refine wp_skip ?_
   refine th_n ?_
   refine wp_seq ?_
   rcases Bool.eq_false_or_eq_true (decide (1048576 - ((roomLen r : Nat) : Int) - ((regionLen p : Nat) : Int) < 0)) with q19 | q19
   · skip
     refine wp_regJ (by kernel_rfl) [19, 20, 21, 9] [some (.agg #[.slice p_a.A p.length p_a.c]), some (.int .i64 (1048576 - ((roomLen r : Nat) : Int))), some (.int .i64 (-1)), some (.int .i64 (-1))] ((List.range 4).map List.range) [19, 20, 21, 9] [0, 1, 2, 3] [] (fun L aa ww => (L 3 = false → aa.tmps[9]?.getD undef = .int .i64 (1048576 - ((roomLen r : Nat) : Int)))) (by kernel_rfl) (by rw [hz]; decide) ?_ (.cons ?_ (.cons ?_ (.cons ?_ (.cons ?_ .nil)))) ?_
     · exact fun _ h => (fun _ => s9)
     · intro Lk ak ww hL hdd haa hF hK hV hX Nk Qk hN; refine wnt rfl ?_
       simp [go_sem, Array.getD_eq_getD_getElem?, hF.g rfl s5, (b4.kp hK (by simp)).cell]
       exact (hN _ _ hK rfl (fun h => (put_ne' (by decide) _).trans (hX h)))
     · intro Lk ak ww hL hdd haa hF hK hV hX Nk Qk hN
       have x0 := hX
       refine wnt rfl ?_
       exact wp_move rfl (ev (x0 (haa 3 rfl))) (hN _ _ hK rfl (fun h => (put_ne' (by decide) _).trans (x0 h)))
     · intro Lk ak ww hL hdd haa hF hK hV hX Nk Qk hN; refine wnt rfl ?_
       simp [go_sem, Array.getD_eq_getD_getElem?, (show ak.tmps[19]?.getD undef = _ from hV 0 _ rfl (hdd 0 rfl)), (show ak.tmps[20]?.getD undef = _ from hV 1 _ rfl (hdd 1 rfl))]
       refine (szRegion_c p p_a (1048576 - ((roomLen r : Nat) : Int)) ww hl_p (by have := dec_f q8; omega) (by have := dec_f q8; omega)).mono ?_
       rintro x wx ⟨rfl, hb⟩
       exact (hN _ _ (hK.call hb) (congrArg (Value.int .i64) (if_pos (dec_t q19))) (fun h => (put_ne' (by decide) _).trans (hX h)))
     · intro Lk ak ww hL hdd haa hF hK hV hX Nk Qk hN
       have x0 := hX
       refine wnt rfl ?_
       exact wp_assign rfl (ev (hV 2 _ rfl (hdd 2 rfl))) (hN _ _ hK rfl (fun h => by cases h))
     intro L a20 w21 hL hF hK hV hX
     have x0 := hX
     replace hz := hF.size.trans hz
     replace hdf := hF.defers.trans hdf
     replace s3 := hF.g rfl s3
     replace s4 := hF.g rfl s4
     replace s5 := hF.g rfl s5
     replace s6 := hF.g rfl s6
     have s9 : a20.tmps[9]?.getD undef = .int .i64 (-1) := hV 3 _ rfl
     replace b3 := b3.kp hK (by simp)
     replace b4 := b4.kp hK (by simp)
     replace b5 := b5.kp hK (by simp)
     replace hZ := Nat.le_trans hZ hK.size
     replace hB := hK.below0 hB
     clear hF hK hV hL x0 s18
     refine th_n ?_
     refine wp_seq ?_
     refine wp_seq ?_
     refine wp_regJ (by kernel_rfl) [22, 23] [some (.int .i64 (-1)), some (.bool true)] ((List.range 2).map List.range) [22, 23] [0, 1] [] (fun _ _ _ => True) (by kernel_rfl) (by rw [hz]; decide) ?_ (.cons ?_ (.cons ?_ .nil)) ?_
     · exact fun _ _ => trivial
     · intro Lk ak ww hL hdd haa hF hK hV hX Nk Qk hN; refine wnt rfl ?_
       exact wp_move rfl (ev (hF.g rfl s9)) (hN _ _ hK rfl trivial)
     · intro Lk ak ww hL hdd haa hF hK hV hX Nk Qk hN; refine wnt rfl ?_
       exact wp_bin rfl (ev (hV 0 _ rfl (hdd 0 rfl))) rfl rfl rfl (hN _ _ hK rfl trivial)
     intro L a22 w23 hL hF hK hV hX
     replace hz := hF.size.trans hz
     replace hdf := hF.defers.trans hdf
     replace s3 := hF.g rfl s3
     replace s4 := hF.g rfl s4
     replace s5 := hF.g rfl s5
     replace s6 := hF.g rfl s6
     have s23 : a22.tmps[23]?.getD undef = .bool true := hV 1 _ rfl
     replace b3 := b3.kp hK (by simp)
     replace b4 := b4.kp hK (by simp)
     replace b5 := b5.kp hK (by simp)
     replace hZ := Nat.le_trans hZ hK.size
     replace hB := hK.below0 hB
     clear hF hK hV hL hX s9
     refine th_n ?_
     refine wp_cond_true (ev s23) ?_
     refine wp_seq ?_
     refine wp_regJ (by kernel_rfl) [8] [some (.bool true)] ((List.range 1).map List.range) [8] [0] [] (fun _ _ _ => True) (by kernel_rfl) (by rw [hz]; decide) ?_ (.cons ?_ .nil) ?_
     · exact fun _ _ => trivial
     · intro Lk ak ww hL hdd haa hF hK hV hX Nk Qk hN; refine wnt rfl ?_
       exact wp_assign rfl rfl (hN _ _ hK rfl trivial)
     intro L a24 w25 hL hF hK hV hX
     replace hz := hF.size.trans hz
     replace hdf := hF.defers.trans hdf
     have s8 : a24.tmps[8]?.getD undef = .bool true := hV 0 _ rfl
     replace hZ := Nat.le_trans hZ hK.size
     replace hB := hK.below0 hB
     clear hF hK hV hL hX s3 s4 s5 s6 s23 b3 b4 b5
     refine th_n ?_
     refine wp_ret ?_
     refine th_r ?_
     refine bodyPost_ret (v := .bool true) (by simp [results, Tryz.results5, go_sem, Array.getD_eq_getD_getElem?, s8]) hdf ?_
     exact ⟨rfl, hB⟩
   · skip
     refine wp_regJ (by kernel_rfl) [19, 20, 21, 9] [some (.agg #[.slice p_a.A p.length p_a.c]), some (.int .i64 (1048576 - ((roomLen r : Nat) : Int))), some (.int .i64 (1048576 - ((roomLen r : Nat) : Int) - ((regionLen p : Nat) : Int))), some (.int .i64 (1048576 - ((roomLen r : Nat) : Int) - ((regionLen p : Nat) : Int)))] ((List.range 4).map List.range) [19, 20, 21, 9] [0, 1, 2, 3] [] (fun L aa ww => (L 3 = false → aa.tmps[9]?.getD undef = .int .i64 (1048576 - ((roomLen r : Nat) : Int)))) (by kernel_rfl) (by rw [hz]; decide) ?_ (.cons ?_ (.cons ?_ (.cons ?_ (.cons ?_ .nil)))) ?_
     · exact fun _ h => (fun _ => s9)
     · intro Lk ak ww hL hdd haa hF hK hV hX Nk Qk hN; refine wnt rfl ?_
       simp [go_sem, Array.getD_eq_getD_getElem?, hF.g rfl s5, (b4.kp hK (by simp)).cell]
       exact (hN _ _ hK rfl (fun h => (put_ne' (by decide) _).trans (hX h)))
     · intro Lk ak ww hL hdd haa hF hK hV hX Nk Qk hN
       have x0 := hX
       refine wnt rfl ?_
       exact wp_move rfl (ev (x0 (haa 3 rfl))) (hN _ _ hK rfl (fun h => (put_ne' (by decide) _).trans (x0 h)))
     · intro Lk ak ww hL hdd haa hF hK hV hX Nk Qk hN; refine wnt rfl ?_
       simp [go_sem, Array.getD_eq_getD_getElem?, (show ak.tmps[19]?.getD undef = _ from hV 0 _ rfl (hdd 0 rfl)), (show ak.tmps[20]?.getD undef = _ from hV 1 _ rfl (hdd 1 rfl))]
       refine (szRegion_c p p_a (1048576 - ((roomLen r : Nat) : Int)) ww hl_p (by have := dec_f q8; omega) (by have := dec_f q8; omega)).mono ?_
       rintro x wx ⟨rfl, hb⟩
       exact (hN _ _ (hK.call hb) (congrArg (Value.int .i64) (if_neg (dec_f q19))) (fun h => (put_ne' (by decide) _).trans (hX h)))
     · intro Lk ak ww hL hdd haa hF hK hV hX Nk Qk hN
       have x0 := hX
       refine wnt rfl ?_
       exact wp_assign rfl (ev (hV 2 _ rfl (hdd 2 rfl))) (hN _ _ hK rfl (fun h => by cases h))
     intro L a26 w27 hL hF hK hV hX
     have x0 := hX
     replace hz := hF.size.trans hz
     replace hdf := hF.defers.trans hdf
     replace s3 := hF.g rfl s3
     replace s4 := hF.g rfl s4
     replace s5 := hF.g rfl s5
     replace s6 := hF.g rfl s6
     have s9 : a26.tmps[9]?.getD undef = .int .i64 (1048576 - ((roomLen r : Nat) : Int) - ((regionLen p : Nat) : Int)) := hV 3 _ rfl
     replace b3 := b3.kp hK (by simp)
     replace b4 := b4.kp hK (by simp)
     replace b5 := b5.kp hK (by simp)
     replace hZ := Nat.le_trans hZ hK.size
     replace hB := hK.below0 hB
     clear hF hK hV hL x0 s18
     refine th_n ?_
     refine wp_seq ?_
     refine wp_seq ?_
     refine wp_regJ (by kernel_rfl) [22, 23] [some (.int .i64 (1048576 - ((roomLen r : Nat) : Int) - ((regionLen p : Nat) : Int))), some (.bool (decide (1048576 - ((roomLen r : Nat) : Int) - ((regionLen p : Nat) : Int) < 0)))] ((List.range 2).map List.range) [22, 23] [0, 1] [] (fun _ _ _ => True) (by kernel_rfl) (by rw [hz]; decide) ?_ (.cons ?_ (.cons ?_ .nil)) ?_
     · exact fun _ _ => trivial
     · intro Lk ak ww hL hdd haa hF hK hV hX Nk Qk hN; refine wnt rfl ?_
       exact wp_move rfl (ev (hF.g rfl s9)) (hN _ _ hK rfl trivial)
     · intro Lk ak ww hL hdd haa hF hK hV hX Nk Qk hN; refine wnt rfl ?_
       exact wp_bin rfl (ev (hV 0 _ rfl (hdd 0 rfl))) rfl rfl rfl (hN _ _ hK rfl trivial)
     intro L a28 w29 hL hF hK hV hX
     replace hz := hF.size.trans hz
     replace hdf := hF.defers.trans hdf
     replace s3 := hF.g rfl s3
     replace s4 := hF.g rfl s4
     replace s5 := hF.g rfl s5
     replace s6 := hF.g rfl s6
     have s23 : a28.tmps[23]?.getD undef = .bool (decide (1048576 - ((roomLen r : Nat) : Int) - ((regionLen p : Nat) : Int) < 0)) := hV 1 _ rfl
     replace b3 := b3.kp hK (by simp)
     replace b4 := b4.kp hK (by simp)
     replace b5 := b5.kp hK (by simp)
     replace hZ := Nat.le_trans hZ hK.size
     replace hB := hK.below0 hB
     clear hF hK hV hL hX s9
     refine th_n ?_
     refine wp_cond_false (ev (vb s23 q19)) ?_
     refine wp_skip ?_
     refine th_n ?_
     refine wp_seq ?_
     refine wp_regJ (by kernel_rfl) [24, 25, 26, 27, 28, 29, 30, 31, 10] [some (roomV r r_a), none, some (.agg #[.slice p_a.A p.length p_a.c]), none, some (.agg #[.int .i64 s.x, .int .i64 s.y, .int .i64 s.d]), some (.agg #[.int .i64 s.x, .int .i64 s.y, .int .i64 s.d]), some (.int .i64 most), some (.int .i64 (largD r p s most)), some (.int .i64 (largD r p s most))] ([[], [0], [], [0, 1, 2], [], [0, 1, 2, 3, 4], [], [0, 1, 2, 3, 4, 5, 6], [0, 1, 2, 3, 4, 5, 6, 7]]) [24, 25, 26, 27, 28, 29, 30, 31, 10] [0, 1, 2, 3, 4, 5, 6, 7, 8] [] (fun L aa ww => (L 1 = true → (fun ww v => ∃ m1, v = roomV r m1 ∧ RoomNew ww w29.heap.size r m1) ww (aa.tmps[25]?.getD undef)) ∧ (L 3 = true → (fun ww v => ∃ m2, v = .agg #[.slice m2.A p.length m2.c] ∧ RegionNew ww w29.heap.size p m2) ww (aa.tmps[27]?.getD undef))) (by kernel_rfl) (by rw [hz]; decide) ?_ (.cons ?_ (.cons ?_ (.cons ?_ (.cons ?_ (.cons ?_ (.cons ?_ (.cons ?_ (.cons ?_ (.cons ?_ .nil))))))))) ?_
     · exact fun _ h => ⟨(fun h => by cases h), (fun h => by cases h)⟩
     · intro Lk ak ww hL hdd haa hF hK hV hX Nk Qk hN; refine wnt rfl ?_
       simp [go_sem, Array.getD_eq_getD_getElem?, hF.g rfl s4, (b3.kp hK (by simp)).cell]
       exact (hN _ _ hK rfl ⟨(fun h => by rw [put_ne' (by decide)]; obtain ⟨m1', e, f1'⟩ := hX.1 h; exact ⟨m1', e, f1'.below (Below.refl _ _) (Nat.le_refl _)⟩), (fun h => by rw [put_ne' (by decide)]; obtain ⟨m2', e, f2'⟩ := hX.2 h; exact ⟨m2', e, f2'.below (Below.refl _ _) (Nat.le_refl _)⟩)⟩)
     · intro Lk ak ww hL hdd haa hF hK hV hX Nk Qk hN
       obtain ⟨x0, x1⟩ := hX
       refine wnt rfl ?_
       simp [go_sem, Array.getD_eq_getD_getElem?, (show ak.tmps[24]?.getD undef = _ from hV 0 _ rfl (hdd 0 rfl))]
       have hBi := hK.below0 hB
       refine (toRoom_c r r_a ww (by have := dec_f q8; have := dec_f q19; (try unfold regionLen at *); omega) (hs_r.below hBi)).mono ?_
       rintro x wx ⟨m1, rfl, f0, hb⟩
       have f1 := f0.mono hK.size
       exact (hN _ _ (hK.call hb) trivial ⟨(fun _ => by rw [put_get_self (hF.lt (by rw [hz]; decide))]; exact ⟨m1, rfl, f1⟩), (fun h => by rw [put_ne' (by decide)]; obtain ⟨m2', e, f2'⟩ := x1 h; exact ⟨m2', e, f2'.below hb (Nat.le_refl _)⟩)⟩)
     · intro Lk ak ww hL hdd haa hF hK hV hX Nk Qk hN; refine wnt rfl ?_
       simp [go_sem, Array.getD_eq_getD_getElem?, hF.g rfl s5, (b4.kp hK (by simp)).cell]
       exact (hN _ _ hK rfl ⟨(fun h => by rw [put_ne' (by decide)]; obtain ⟨m1', e, f1'⟩ := hX.1 h; exact ⟨m1', e, f1'.below (Below.refl _ _) (Nat.le_refl _)⟩), (fun h => by rw [put_ne' (by decide)]; obtain ⟨m2', e, f2'⟩ := hX.2 h; exact ⟨m2', e, f2'.below (Below.refl _ _) (Nat.le_refl _)⟩)⟩)
     · intro Lk ak ww hL hdd haa hF hK hV hX Nk Qk hN
       obtain ⟨x0, x1⟩ := hX
       refine wnt rfl ?_
       simp [go_sem, Array.getD_eq_getD_getElem?, (show ak.tmps[26]?.getD undef = _ from hV 2 _ rfl (hdd 2 rfl))]
       have hBi := hK.below0 hB
       refine (toRegion_c p p_a ww (by have := dec_f q8; have := dec_f q19; (try unfold regionLen at *); omega) ⟨(hs_p.halves.below hBi)⟩).mono ?_
       rintro x wx ⟨m2, rfl, f0, hb⟩
       have f2 := f0.mono hK.size
       exact (hN _ _ (hK.call hb) trivial ⟨(fun h => by rw [put_ne' (by decide)]; obtain ⟨m1', e, f1'⟩ := x0 h; exact ⟨m1', e, f1'.below hb (Nat.le_refl _)⟩), (fun _ => by rw [put_get_self (hF.lt (by rw [hz]; decide))]; exact ⟨m2, rfl, f2⟩)⟩)
     · intro Lk ak ww hL hdd haa hF hK hV hX Nk Qk hN; refine wnt rfl ?_
       simp [go_sem, Array.getD_eq_getD_getElem?, hF.g rfl s6, (b5.kp hK (by simp)).cell]
       exact (hN _ _ hK rfl ⟨(fun h => by rw [put_ne' (by decide)]; obtain ⟨m1', e, f1'⟩ := hX.1 h; exact ⟨m1', e, f1'.below (Below.refl _ _) (Nat.le_refl _)⟩), (fun h => by rw [put_ne' (by decide)]; obtain ⟨m2', e, f2'⟩ := hX.2 h; exact ⟨m2', e, f2'.below (Below.refl _ _) (Nat.le_refl _)⟩)⟩)
     · intro Lk ak ww hL hdd haa hF hK hV hX Nk Qk hN; refine wnt rfl ?_
       simp [go_sem, Array.getD_eq_getD_getElem?, (show ak.tmps[28]?.getD undef = _ from hV 4 _ rfl (hdd 4 rfl))]
       refine (toSpot_c s ww).mono ?_
       rintro x wx ⟨rfl, hb⟩
       exact (hN _ _ (hK.call hb) rfl ⟨(fun h => by rw [put_ne' (by decide)]; obtain ⟨m1', e, f1'⟩ := hX.1 h; exact ⟨m1', e, f1'.below hb (Nat.le_refl _)⟩), (fun h => by rw [put_ne' (by decide)]; obtain ⟨m2', e, f2'⟩ := hX.2 h; exact ⟨m2', e, f2'.below hb (Nat.le_refl _)⟩)⟩)
     · intro Lk ak ww hL hdd haa hF hK hV hX Nk Qk hN; refine wnt rfl ?_
       exact wp_move rfl (ev (hF.g rfl s3)) (hN _ _ hK rfl ⟨(fun h => by rw [put_ne' (by decide)]; obtain ⟨m1', e, f1'⟩ := hX.1 h; exact ⟨m1', e, f1'.below (Below.refl _ _) (Nat.le_refl _)⟩), (fun h => by rw [put_ne' (by decide)]; obtain ⟨m2', e, f2'⟩ := hX.2 h; exact ⟨m2', e, f2'.below (Below.refl _ _) (Nat.le_refl _)⟩)⟩)
     · intro Lk ak ww hL hdd haa hF hK hV hX Nk Qk hN
       obtain ⟨x0, x1⟩ := hX
       refine wnt rfl ?_
       obtain ⟨m1, ee1, f1⟩ := x0 (hdd 1 rfl)
       obtain ⟨m2, ee3, f2⟩ := x1 (hdd 3 rfl)
       simp [go_sem, Array.getD_eq_getD_getElem?, ee1, ee3, (show ak.tmps[29]?.getD undef = _ from hV 5 _ rfl (hdd 5 rfl)), (show ak.tmps[30]?.getD undef = _ from hV 6 _ rfl (hdd 6 rfl))]
       refine (sLarg_c r p s most m1 m2 ww (by have := dec_f q8; have := dec_f q19; (try unfold regionLen at *); omega) hin_r f1.sl f1.nil (by have := dec_f q8; have := dec_f q19; (try unfold regionLen at *); omega) hin_p.halves (f2.halves.out halfC_len) f2.halves.nilcap hin_s).mono ?_
       rintro x wx ⟨rfl, hb⟩
       exact (hN _ _ (hK.call hb) rfl ⟨(fun h => by rw [put_ne' (by decide)]; obtain ⟨m1', e, f1'⟩ := x0 h; exact ⟨m1', e, f1'.below hb (Nat.le_refl _)⟩), (fun h => by rw [put_ne' (by decide)]; obtain ⟨m2', e, f2'⟩ := x1 h; exact ⟨m2', e, f2'.below hb (Nat.le_refl _)⟩)⟩)
     · intro Lk ak ww hL hdd haa hF hK hV hX Nk Qk hN; refine wnt rfl ?_
       exact wp_assign rfl (ev (hV 7 _ rfl (hdd 7 rfl))) (hN _ _ hK rfl ⟨(fun h => by rw [put_ne' (by decide)]; obtain ⟨m1', e, f1'⟩ := hX.1 h; exact ⟨m1', e, f1'.below (Below.refl _ _) (Nat.le_refl _)⟩), (fun h => by rw [put_ne' (by decide)]; obtain ⟨m2', e, f2'⟩ := hX.2 h; exact ⟨m2', e, f2'.below (Below.refl _ _) (Nat.le_refl _)⟩)⟩)
     intro L a30 w31 hL hF hK hV hX
     obtain ⟨x0, x1⟩ := hX
     replace hz := hF.size.trans hz
     replace hdf := hF.defers.trans hdf
     replace s3 := hF.g rfl s3
     replace s4 := hF.g rfl s4
     replace s5 := hF.g rfl s5
     replace s6 := hF.g rfl s6
     have s10 : a30.tmps[10]?.getD undef = .int .i64 (largD r p s most) := hV 8 _ rfl
     replace b3 := b3.kp hK (by simp)
     replace b4 := b4.kp hK (by simp)
     replace b5 := b5.kp hK (by simp)
     replace hZ := Nat.le_trans hZ hK.size
     replace hB := hK.below0 hB
     clear hF hK hV hL x0 x1 s23
     refine th_n ?_
     refine wp_seq ?_
     refine wp_regJ (by kernel_rfl) [32, 33, 11, 0] [some (roomV r r_a), none, none, none] ((List.range 4).map List.range) [32, 33, 11] [0, 1, 2, 3] [] (fun L aa ww => (L 1 = true → (fun ww v => ∃ m3, v = roomV r m3 ∧ RoomNew ww w31.heap.size r m3) ww (aa.tmps[33]?.getD undef)) ∧ (L 2 = true → BoxX w31 aa ww 11 39 [.slice none 0 0, .int .i64 0, .int .i64 0, .int .i64 0, .int .i64 0, .int .i64 0, .slice none 0 0, .slice none 0 0] (L 3) (fun ww vs => ∃ m3, vs = (roomC r m3) ∧ RoomNew ww w31.heap.size r m3))) (by kernel_rfl) (by rw [hz]; decide) ?_ (.cons ?_ (.cons ?_ (.cons ?_ (.cons ?_ .nil)))) ?_
     · exact fun _ h => ⟨(fun h => by cases h), (fun h => by cases h)⟩
     · intro Lk ak ww hL hdd haa hF hK hV hX Nk Qk hN; refine wnt rfl ?_
       simp [go_sem, Array.getD_eq_getD_getElem?, hF.g rfl s4, (b3.kp hK (by simp)).cell]
       exact (hN _ _ hK rfl ⟨(fun h => by rw [put_ne' (by decide)]; obtain ⟨m3', e, f3'⟩ := hX.1 h; exact ⟨m3', e, f3'.below (Below.refl _ _) (Nat.le_refl _)⟩), (fun h => ((hX.2 h).bel (Below.refl _ _) (fun _ ⟨m3', e, f3'⟩ => ⟨m3', e, f3'.below (Below.refl _ _) (Nat.le_refl _)⟩)).put (by decide) _)⟩)
     · intro Lk ak ww hL hdd haa hF hK hV hX Nk Qk hN
       obtain ⟨x0, x1⟩ := hX
       refine wnt rfl ?_
       simp [go_sem, Array.getD_eq_getD_getElem?, (show ak.tmps[32]?.getD undef = _ from hV 0 _ rfl (hdd 0 rfl))]
       have hBi := hK.below0 hB
       refine (toRoom_c r r_a ww (by have := dec_f q8; have := dec_f q19; (try unfold regionLen at *); omega) (hs_r.below hBi)).mono ?_
       rintro x wx ⟨m3, rfl, f0, hb⟩
       have f3 := f0.mono hK.size
       exact (hN _ _ (hK.call hb) trivial ⟨(fun _ => by rw [put_get_self (hF.lt (by rw [hz]; decide))]; exact ⟨m3, rfl, f3⟩), (fun h => ((x1 h).bel hb (fun _ ⟨m3', e, f3'⟩ => ⟨m3', e, f3'.below hb (Nat.le_refl _)⟩)).put (by decide) _)⟩)
     · intro Lk ak ww hL hdd haa hF hK hV hX Nk Qk hN
       obtain ⟨x0, x1⟩ := hX
       refine wnt rfl ?_
       simp [go_sem]
       exact hN _ _ (hK.alloc _) trivial ⟨(fun h => by rw [put_ne' (by decide)]; obtain ⟨m3', e, f3'⟩ := x0 h; exact ⟨m3', e, f3'.below (below_al (Below.refl _ _) _) (Nat.le_refl _)⟩), (fun _ => by rw [show upd Lk 2 3 = false from haa 3 rfl]; exact BoxX.new (s := 11) (hF.lt (by rw [hz]; decide)) hK.size [.slice none 0 0, .int .i64 0, .int .i64 0, .int .i64 0, .int .i64 0, .int .i64 0, .slice none 0 0, .slice none 0 0])⟩
     · intro Lk ak ww hL hdd haa hF hK hV hX Nk Qk hN
       obtain ⟨x0, x1⟩ := hX
       refine wnt rfl ?_
       obtain ⟨m3, ee1, f3⟩ := x0 (hdd 1 rfl)
       obtain ⟨g, eg, hg, y, _⟩ := x1 (hdd 2 rfl)
       have HT := y hL
       simp [go_sem, Array.getD_eq_getD_getElem?, ee1, eg, HT.cell, HT.frz]
       have f3 := f3.otherT HT (by decide) (by decide) [.slice m3.map.A r.map.length m3.map.c, .int .i64 r.div, .int .i64 r.bx, .int .i64 r.by_, .int .i64 r.low, .int .i64 r.high, .slice m3.noise.A r.noise.length m3.noise.c, .slice m3.limits.A r.limits.length m3.limits.c] 0
       exact hN undef _ (hK.store (.inl hg) [.slice m3.map.A r.map.length m3.map.c, .int .i64 r.div, .int .i64 r.bx, .int .i64 r.by_, .int .i64 r.low, .int .i64 r.high, .slice m3.noise.A r.noise.length m3.noise.c, .slice m3.limits.A r.limits.length m3.limits.c] 0) trivial ⟨(fun h => by obtain ⟨m3', e, f3'⟩ := x0 h; exact ⟨m3', e, f3'.otherT HT (by decide) (by decide) [.slice m3.map.A r.map.length m3.map.c, .int .i64 r.div, .int .i64 r.bx, .int .i64 r.by_, .int .i64 r.low, .int .i64 r.high, .slice m3.noise.A r.noise.length m3.noise.c, .slice m3.limits.A r.limits.length m3.limits.c] 0⟩), (fun _ => BoxX.set eg hg HT (us := [.slice m3.map.A r.map.length m3.map.c, .int .i64 r.div, .int .i64 r.bx, .int .i64 r.by_, .int .i64 r.low, .int .i64 r.high, .slice m3.noise.A r.noise.length m3.noise.c, .slice m3.limits.A r.limits.length m3.limits.c]) rfl ⟨m3, rfl, f3⟩)⟩
     intro L a32 w33 hL hF hK hV hX
     obtain ⟨x0, x1⟩ := hX
     replace hz := hF.size.trans hz
     replace hdf := hF.defers.trans hdf
     replace s3 := hF.g rfl s3
     replace s4 := hF.g rfl s4
     replace s5 := hF.g rfl s5
     replace s6 := hF.g rfl s6
     replace s10 := hF.g rfl s10
     replace b3 := b3.kp hK (by simp)
     replace b4 := b4.kp hK (by simp)
     replace b5 := b5.kp hK (by simp)
     obtain ⟨g34, s11, lg34, -, b34⟩ := x1 (hL 2 (by decide))
     obtain ⟨_, b34, m3, rfl, N3⟩ := b34 (hL 3 (by decide))
     have ug34 := b34.lt
     have zw31 := hZ
     have zw33 := hK.size
     replace hZ := Nat.le_refl w33.heap.size
     replace hB := hK.below0 hB
     clear hF hK hV hL x0 x1
     refine th_n ?_
     refine wp_seq ?_
     refine wp_regJ (by kernel_rfl) [34, 35, 12, 0] [some (.agg #[.slice p_a.A p.length p_a.c]), none, none, none] ((List.range 4).map List.range) [34, 35, 12] [0, 1, 2, 3] [] (fun L aa ww => (L 1 = true → (fun ww v => ∃ m4, v = .agg #[.slice m4.A p.length m4.c] ∧ RegionNew ww w33.heap.size p m4) ww (aa.tmps[35]?.getD undef)) ∧ (L 2 = true → BoxX w33 aa ww 12 37 [.slice none 0 0] (L 3) (fun ww vs => ∃ m4, vs = [.slice m4.A p.length m4.c] ∧ RegionNew ww w33.heap.size p m4))) (by kernel_rfl) (by rw [hz]; decide) ?_ (.cons ?_ (.cons ?_ (.cons ?_ (.cons ?_ .nil)))) ?_
     · exact fun _ h => ⟨(fun h => by cases h), (fun h => by cases h)⟩
     · intro Lk ak ww hL hdd haa hF hK hV hX Nk Qk hN; refine wnt rfl ?_
       simp [go_sem, Array.getD_eq_getD_getElem?, hF.g rfl s5, (b4.kp hK (by simp)).cell]
       exact (hN _ _ hK rfl ⟨(fun h => by rw [put_ne' (by decide)]; obtain ⟨m4', e, f4'⟩ := hX.1 h; exact ⟨m4', e, f4'.below (Below.refl _ _) (Nat.le_refl _)⟩), (fun h => ((hX.2 h).bel (Below.refl _ _) (fun _ ⟨m4', e, f4'⟩ => ⟨m4', e, f4'.below (Below.refl _ _) (Nat.le_refl _)⟩)).put (by decide) _)⟩)
     · intro Lk ak ww hL hdd haa hF hK hV hX Nk Qk hN
       obtain ⟨x0, x1⟩ := hX
       refine wnt rfl ?_
       simp [go_sem, Array.getD_eq_getD_getElem?, (show ak.tmps[34]?.getD undef = _ from hV 0 _ rfl (hdd 0 rfl))]
       have hBi := hK.below0 hB
       refine (toRegion_c p p_a ww (by have := dec_f q8; have := dec_f q19; (try unfold regionLen at *); omega) ⟨(hs_p.halves.below hBi)⟩).mono ?_
       rintro x wx ⟨m4, rfl, f0, hb⟩
       have f4 := f0.mono hK.size
       exact (hN _ _ (hK.call hb) trivial ⟨(fun _ => by rw [put_get_self (hF.lt (by rw [hz]; decide))]; exact ⟨m4, rfl, f4⟩), (fun h => ((x1 h).bel hb (fun _ ⟨m4', e, f4'⟩ => ⟨m4', e, f4'.below hb (Nat.le_refl _)⟩)).put (by decide) _)⟩)
     · intro Lk ak ww hL hdd haa hF hK hV hX Nk Qk hN
       obtain ⟨x0, x1⟩ := hX
       refine wnt rfl ?_
       simp [go_sem]
       exact hN _ _ (hK.alloc _) trivial ⟨(fun h => by rw [put_ne' (by decide)]; obtain ⟨m4', e, f4'⟩ := x0 h; exact ⟨m4', e, f4'.below (below_al (Below.refl _ _) _) (Nat.le_refl _)⟩), (fun _ => by rw [show upd Lk 2 3 = false from haa 3 rfl]; exact BoxX.new (s := 12) (hF.lt (by rw [hz]; decide)) hK.size [.slice none 0 0])⟩
     · intro Lk ak ww hL hdd haa hF hK hV hX Nk Qk hN
       obtain ⟨x0, x1⟩ := hX
       refine wnt rfl ?_
       obtain ⟨m4, ee1, f4⟩ := x0 (hdd 1 rfl)
       obtain ⟨g, eg, hg, y, _⟩ := x1 (hdd 2 rfl)
       have HT := y hL
       simp [go_sem, Array.getD_eq_getD_getElem?, ee1, eg, HT.cell, HT.frz]
       have f4 := f4.otherT HT (by decide) [.slice m4.A p.length m4.c] 0
       exact hN undef _ (hK.store (.inl hg) [.slice m4.A p.length m4.c] 0) trivial ⟨(fun h => by obtain ⟨m4', e, f4'⟩ := x0 h; exact ⟨m4', e, f4'.otherT HT (by decide) [.slice m4.A p.length m4.c] 0⟩), (fun _ => BoxX.set eg hg HT (us := [.slice m4.A p.length m4.c]) rfl ⟨m4, rfl, f4⟩)⟩
     intro L a35 w36 hL hF hK hV hX
     obtain ⟨x0, x1⟩ := hX
     replace hz := hF.size.trans hz
     replace hdf := hF.defers.trans hdf
     replace s3 := hF.g rfl s3
     replace s4 := hF.g rfl s4
     replace s5 := hF.g rfl s5
     replace s6 := hF.g rfl s6
     replace s10 := hF.g rfl s10
     replace s11 := hF.g rfl s11
     replace b3 := b3.kp hK (by simp)
     replace b4 := b4.kp hK (by simp)
     replace b5 := b5.kp hK (by simp)
     replace b34 := b34.kp hK (by simp)
     obtain ⟨g37, s12, lg37, -, b37⟩ := x1 (hL 2 (by decide))
     obtain ⟨_, b37, m4, rfl, N4⟩ := b37 (hL 3 (by decide))
     have ug37 := b37.lt
     replace N3 := N3.below hK.toBelow (Nat.le_refl _)
     have zw36 := hK.size
     replace hZ := Nat.le_refl w36.heap.size
     replace hB := hK.below0 hB
     clear hF hK hV hL x0 x1
     refine th_n ?_
     refine wp_seq ?_
     refine wp_regJ (by kernel_rfl) [36, 37, 38, 39, 40, 41, 13] [some (roomV r m3), some (.agg #[.slice m4.A p.length m4.c]), some (.agg #[.int .i64 s.x, .int .i64 s.y, .int .i64 s.d]), some (.agg #[.int .i64 s.x, .int .i64 s.y, .int .i64 s.d]), some (.int .i64 most), some (.int .i64 (largD r p s most)), some (.int .i64 (largD r p s most))] ([[], [], [], [2], [], [0, 1, 2, 3, 4], [0, 1, 2, 3, 4, 5]]) [36, 37, 38, 39, 40, 41, 13] [0, 1, 2, 3, 4, 5, 6] [] (fun _ _ _ => True) (by kernel_rfl) (by rw [hz]; decide) ?_ (.cons ?_ (.cons ?_ (.cons ?_ (.cons ?_ (.cons ?_ (.cons ?_ (.cons ?_ .nil))))))) ?_
     · exact fun _ _ => trivial
     · intro Lk ak ww hL hdd haa hF hK hV hX Nk Qk hN; refine wnt rfl ?_
       simp [go_sem, Array.getD_eq_getD_getElem?, hF.g rfl s11, (b34.kp hK (by simp)).cell]
       exact (hN _ _ hK rfl trivial)
     · intro Lk ak ww hL hdd haa hF hK hV hX Nk Qk hN; refine wnt rfl ?_
       simp [go_sem, Array.getD_eq_getD_getElem?, hF.g rfl s12, (b37.kp hK (by simp)).cell]
       exact (hN _ _ hK rfl trivial)
     · intro Lk ak ww hL hdd haa hF hK hV hX Nk Qk hN; refine wnt rfl ?_
       simp [go_sem, Array.getD_eq_getD_getElem?, hF.g rfl s6, (b5.kp hK (by simp)).cell]
       exact (hN _ _ hK rfl trivial)
     · intro Lk ak ww hL hdd haa hF hK hV hX Nk Qk hN; refine wnt rfl ?_
       simp [go_sem, Array.getD_eq_getD_getElem?, (show ak.tmps[38]?.getD undef = _ from hV 2 _ rfl (hdd 2 rfl))]
       refine (toSpot_c s ww).mono ?_
       rintro x wx ⟨rfl, hb⟩
       exact (hN _ _ (hK.call hb) rfl trivial)
     · intro Lk ak ww hL hdd haa hF hK hV hX Nk Qk hN; refine wnt rfl ?_
       exact wp_move rfl (ev (hF.g rfl s3)) (hN _ _ hK rfl trivial)
     · intro Lk ak ww hL hdd haa hF hK hV hX Nk Qk hN; refine wnt rfl ?_
       simp [go_sem, Array.getD_eq_getD_getElem?, (show ak.tmps[36]?.getD undef = _ from hV 0 _ rfl (hdd 0 rfl)), (show ak.tmps[37]?.getD undef = _ from hV 1 _ rfl (hdd 1 rfl)), (show ak.tmps[39]?.getD undef = _ from hV 3 _ rfl (hdd 3 rfl)), (show ak.tmps[40]?.getD undef = _ from hV 4 _ rfl (hdd 4 rfl))]
       refine (iLarg_c r p s most m3 m4 ww (by have := dec_f q8; have := dec_f q19; (try unfold regionLen at *); omega) hin_r ((N3.below hK.toBelow (Nat.le_refl _)).sl) N3.nil (by have := dec_f q8; have := dec_f q19; (try unfold regionLen at *); omega) hin_p.halves ((N4.below hK.toBelow (Nat.le_refl _)).halves.out halfC_len) N4.halves.nilcap hin_s).mono ?_
       rintro x wx ⟨rfl, hb⟩
       exact (hN _ _ (hK.call hb) rfl trivial)
     · intro Lk ak ww hL hdd haa hF hK hV hX Nk Qk hN; refine wnt rfl ?_
       exact wp_assign rfl (ev (hV 5 _ rfl (hdd 5 rfl))) (hN _ _ hK rfl trivial)
     intro L a38 w39 hL hF hK hV hX
     replace hz := hF.size.trans hz
     replace hdf := hF.defers.trans hdf
     replace s4 := hF.g rfl s4
     replace s5 := hF.g rfl s5
     replace s10 := hF.g rfl s10
     replace s11 := hF.g rfl s11
     replace s12 := hF.g rfl s12
     have s13 : a38.tmps[13]?.getD undef = .int .i64 (largD r p s most) := hV 6 _ rfl
     replace b3 := b3.kp hK (by simp)
     replace b4 := b4.kp hK (by simp)
     replace b34 := b34.kp hK (by simp)
     replace b37 := b37.kp hK (by simp)
     replace N3 := N3.below hK.toBelow (Nat.le_refl _)
     replace N4 := N4.below hK.toBelow (Nat.le_refl _)
     replace hZ := Nat.le_trans hZ hK.size
     replace hB := hK.below0 hB
     clear hF hK hV hL hX s3 s6 b5
     refine th_n ?_
     refine wp_seq ?_
     refine wp_seq ?_
     refine wp_regJ (by kernel_rfl) [42, 43, 44] [some (.int .i64 (largD r p s most)), some (.int .i64 (largD r p s most)), some (.bool false)] ((List.range 3).map List.range) [42, 43, 44] [0, 1, 2] [] (fun _ _ _ => True) (by kernel_rfl) (by rw [hz]; decide) ?_ (.cons ?_ (.cons ?_ (.cons ?_ .nil))) ?_
     · exact fun _ _ => trivial
     · intro Lk ak ww hL hdd haa hF hK hV hX Nk Qk hN; refine wnt rfl ?_
       exact wp_move rfl (ev (hF.g rfl s13)) (hN _ _ hK rfl trivial)
     · intro Lk ak ww hL hdd haa hF hK hV hX Nk Qk hN; refine wnt rfl ?_
       exact wp_move rfl (ev (hF.g rfl s10)) (hN _ _ hK rfl trivial)
     · intro Lk ak ww hL hdd haa hF hK hV hX Nk Qk hN; refine wnt rfl ?_
       simp [go_sem, Array.getD_eq_getD_getElem?, (show ak.tmps[42]?.getD undef = _ from hV 0 _ rfl (hdd 0 rfl)), (show ak.tmps[43]?.getD undef = _ from hV 1 _ rfl (hdd 1 rfl))]
       exact (hN _ _ hK rfl trivial)
     intro L a40 w41 hL hF hK hV hX
     replace hz := hF.size.trans hz
     replace hdf := hF.defers.trans hdf
     replace s4 := hF.g rfl s4
     replace s5 := hF.g rfl s5
     replace s11 := hF.g rfl s11
     replace s12 := hF.g rfl s12
     have s44 : a40.tmps[44]?.getD undef = .bool false := hV 2 _ rfl
     replace b3 := b3.kp hK (by simp)
     replace b4 := b4.kp hK (by simp)
     replace b34 := b34.kp hK (by simp)
     replace b37 := b37.kp hK (by simp)
     replace N3 := N3.below hK.toBelow (Nat.le_refl _)
     replace N4 := N4.below hK.toBelow (Nat.le_refl _)
     replace hZ := Nat.le_trans hZ hK.size
     replace hB := hK.below0 hB
     clear hF hK hV hL hX s10 s13
     refine th_n ?_
     refine wp_cond_false (ev s44) ?_
     refine wp_skip ?_
     refine th_n ?_
     refine wp_seq ?_
     refine wp_seq ?_
     refine wp_regJ (by kernel_rfl) [45, 46, 47, 48, 49] [some (roomV r m3), some (roomV r r_a), none, some (.bool true), some (.bool false)] ([[], [], [1], [0, 1, 2], [0, 1, 2, 3]]) [45, 46, 47, 48, 49] [0, 1, 2, 3, 4] [] (fun L aa ww => (L 2 = true → (fun ww v => ∃ m5, v = roomV r m5 ∧ RoomNew ww w41.heap.size r m5) ww (aa.tmps[47]?.getD undef))) (by kernel_rfl) (by rw [hz]; decide) ?_ (.cons ?_ (.cons ?_ (.cons ?_ (.cons ?_ (.cons ?_ .nil))))) ?_
     · exact fun _ h => (fun h => by cases h)
     · intro Lk ak ww hL hdd haa hF hK hV hX Nk Qk hN; refine wnt rfl ?_
       simp [go_sem, Array.getD_eq_getD_getElem?, hF.g rfl s11, (b34.kp hK (by simp)).cell]
       exact (hN _ _ hK rfl (fun h => by rw [put_ne' (by decide)]; obtain ⟨m5', e, f5'⟩ := hX h; exact ⟨m5', e, f5'.below (Below.refl _ _) (Nat.le_refl _)⟩))
     · intro Lk ak ww hL hdd haa hF hK hV hX Nk Qk hN; refine wnt rfl ?_
       simp [go_sem, Array.getD_eq_getD_getElem?, hF.g rfl s4, (b3.kp hK (by simp)).cell]
       exact (hN _ _ hK rfl (fun h => by rw [put_ne' (by decide)]; obtain ⟨m5', e, f5'⟩ := hX h; exact ⟨m5', e, f5'.below (Below.refl _ _) (Nat.le_refl _)⟩))
     · intro Lk ak ww hL hdd haa hF hK hV hX Nk Qk hN
       have x0 := hX
       refine wnt rfl ?_
       simp [go_sem, Array.getD_eq_getD_getElem?, (show ak.tmps[46]?.getD undef = _ from hV 1 _ rfl (hdd 1 rfl))]
       have hBi := hK.below0 hB
       refine (toRoom_c r r_a ww (by have := dec_f q8; have := dec_f q19; (try unfold regionLen at *); omega) (hs_r.below hBi)).mono ?_
       rintro x wx ⟨m5, rfl, f0, hb⟩
       have f5 := f0.mono hK.size
       exact (hN _ _ (hK.call hb) trivial (fun _ => by rw [put_get_self (hF.lt (by rw [hz]; decide))]; exact ⟨m5, rfl, f5⟩))
     · intro Lk ak ww hL hdd haa hF hK hV hX Nk Qk hN
       have x0 := hX
       refine wnt rfl ?_
       obtain ⟨m5, ee2, f5⟩ := x0 (hdd 2 rfl)
       simp [go_sem, Array.getD_eq_getD_getElem?, (show ak.tmps[45]?.getD undef = _ from hV 0 _ rfl (hdd 0 rfl)), ee2]
       refine (eqRoom_t r m3 m5 ww (by have := dec_f q8; have := dec_f q19; (try unfold regionLen at *); omega) ((N3.below hK.toBelow (Nat.le_refl _)).sl) f5.sl).mono ?_
       rintro x wx ⟨rfl, hb⟩
       exact (hN _ _ (hK.call hb) rfl (fun h => by rw [put_ne' (by decide)]; obtain ⟨m5', e, f5'⟩ := x0 h; exact ⟨m5', e, f5'.below hb (Nat.le_refl _)⟩))
     · intro Lk ak ww hL hdd haa hF hK hV hX Nk Qk hN; refine wnt rfl ?_
       exact wp_not rfl (ev (hV 3 _ rfl (hdd 3 rfl))) (hN _ _ hK rfl (fun h => by rw [put_ne' (by decide)]; obtain ⟨m5', e, f5'⟩ := hX h; exact ⟨m5', e, f5'.below (Below.refl _ _) (Nat.le_refl _)⟩))
     intro L a42 w43 hL hF hK hV hX
     have x0 := hX
     replace hz := hF.size.trans hz
     replace hdf := hF.defers.trans hdf
     replace s5 := hF.g rfl s5
     replace s12 := hF.g rfl s12
     have s49 : a42.tmps[49]?.getD undef = .bool false := hV 4 _ rfl
     replace b4 := b4.kp hK (by simp)
     replace b37 := b37.kp hK (by simp)
     replace N4 := N4.below hK.toBelow (Nat.le_refl _)
     replace hZ := Nat.le_trans hZ hK.size
     replace hB := hK.below0 hB
     clear hF hK hV hL x0 s4 s11 s44 b3 b34 N3
     refine th_n ?_
     refine wp_cond_false (ev s49) ?_
     refine wp_skip ?_
     refine th_n ?_
     refine wp_seq ?_
     refine wp_seq ?_
     refine wp_regJ (by kernel_rfl) [50, 51, 52, 53, 54] [some (.agg #[.slice m4.A p.length m4.c]), some (.agg #[.slice p_a.A p.length p_a.c]), none, some (.bool true), some (.bool false)] ([[], [], [1], [0, 1, 2], [0, 1, 2, 3]]) [50, 51, 52, 53, 54] [0, 1, 2, 3, 4] [] (fun L aa ww => (L 2 = true → (fun ww v => ∃ m6, v = .agg #[.slice m6.A p.length m6.c] ∧ RegionNew ww w43.heap.size p m6) ww (aa.tmps[52]?.getD undef))) (by kernel_rfl) (by rw [hz]; decide) ?_ (.cons ?_ (.cons ?_ (.cons ?_ (.cons ?_ (.cons ?_ .nil))))) ?_
     · exact fun _ h => (fun h => by cases h)
     · intro Lk ak ww hL hdd haa hF hK hV hX Nk Qk hN; refine wnt rfl ?_
       simp [go_sem, Array.getD_eq_getD_getElem?, hF.g rfl s12, (b37.kp hK (by simp)).cell]
       exact (hN _ _ hK rfl (fun h => by rw [put_ne' (by decide)]; obtain ⟨m6', e, f6'⟩ := hX h; exact ⟨m6', e, f6'.below (Below.refl _ _) (Nat.le_refl _)⟩))
     · intro Lk ak ww hL hdd haa hF hK hV hX Nk Qk hN; refine wnt rfl ?_
       simp [go_sem, Array.getD_eq_getD_getElem?, hF.g rfl s5, (b4.kp hK (by simp)).cell]
       exact (hN _ _ hK rfl (fun h => by rw [put_ne' (by decide)]; obtain ⟨m6', e, f6'⟩ := hX h; exact ⟨m6', e, f6'.below (Below.refl _ _) (Nat.le_refl _)⟩))
     · intro Lk ak ww hL hdd haa hF hK hV hX Nk Qk hN
       have x0 := hX
       refine wnt rfl ?_
       simp [go_sem, Array.getD_eq_getD_getElem?, (show ak.tmps[51]?.getD undef = _ from hV 1 _ rfl (hdd 1 rfl))]
       have hBi := hK.below0 hB
       refine (toRegion_c p p_a ww (by have := dec_f q8; have := dec_f q19; (try unfold regionLen at *); omega) ⟨(hs_p.halves.below hBi)⟩).mono ?_
       rintro x wx ⟨m6, rfl, f0, hb⟩
       have f6 := f0.mono hK.size
       exact (hN _ _ (hK.call hb) trivial (fun _ => by rw [put_get_self (hF.lt (by rw [hz]; decide))]; exact ⟨m6, rfl, f6⟩))
     · intro Lk ak ww hL hdd haa hF hK hV hX Nk Qk hN
       have x0 := hX
       refine wnt rfl ?_
       obtain ⟨m6, ee2, f6⟩ := x0 (hdd 2 rfl)
       simp [go_sem, Array.getD_eq_getD_getElem?, (show ak.tmps[50]?.getD undef = _ from hV 0 _ rfl (hdd 0 rfl)), ee2]
       refine (eqRegion_t p m4 m6 ww (by have := dec_f q8; have := dec_f q19; (try unfold regionLen at *); omega) ⟨((N4.below hK.toBelow (Nat.le_refl _)).halves.out halfC_len)⟩ ⟨(f6.halves.out halfC_len)⟩).mono ?_
       rintro x wx ⟨rfl, hb⟩
       exact (hN _ _ (hK.call hb) rfl (fun h => by rw [put_ne' (by decide)]; obtain ⟨m6', e, f6'⟩ := x0 h; exact ⟨m6', e, f6'.below hb (Nat.le_refl _)⟩))
     · intro Lk ak ww hL hdd haa hF hK hV hX Nk Qk hN; refine wnt rfl ?_
       exact wp_not rfl (ev (hV 3 _ rfl (hdd 3 rfl))) (hN _ _ hK rfl (fun h => by rw [put_ne' (by decide)]; obtain ⟨m6', e, f6'⟩ := hX h; exact ⟨m6', e, f6'.below (Below.refl _ _) (Nat.le_refl _)⟩))
     intro L a44 w45 hL hF hK hV hX
     have x0 := hX
     replace hz := hF.size.trans hz
     replace hdf := hF.defers.trans hdf
     have s54 : a44.tmps[54]?.getD undef = .bool false := hV 4 _ rfl
     replace hZ := Nat.le_trans hZ hK.size
     replace hB := hK.below0 hB
     clear hF hK hV hL x0 s5 s12 s49 b4 b37 N4
     refine th_n ?_
     refine wp_cond_false (ev s54) ?_
     refine wp_skip ?_
     refine th_n ?_
     refine wp_seq ?_
     refine wp_regJ (by kernel_rfl) [8] [some (.bool true)] ((List.range 1).map List.range) [8] [0] [] (fun _ _ _ => True) (by kernel_rfl) (by rw [hz]; decide) ?_ (.cons ?_ .nil) ?_
     · exact fun _ _ => trivial
     · intro Lk ak ww hL hdd haa hF hK hV hX Nk Qk hN; refine wnt rfl ?_
       exact wp_assign rfl rfl (hN _ _ hK rfl trivial)
     intro L a46 w47 hL hF hK hV hX
     replace hz := hF.size.trans hz
     replace hdf := hF.defers.trans hdf
     have s8 : a46.tmps[8]?.getD undef = .bool true := hV 0 _ rfl
     replace hZ := Nat.le_trans hZ hK.size
     replace hB := hK.below0 hB
     clear hF hK hV hL hX s54
     refine th_n ?_
     refine wp_ret ?_
     refine bodyPost_ret (v := .bool true) (by simp [results, Tryz.results5, go_sem, Array.getD_eq_getD_getElem?, s8]) hdf ?_
     exact ⟨rfl, hB⟩

set_option maxRecDepth 100000 in
theorem lifted_LargestDrift (os : Os) (started : os.Started) (H : Type) (enc : TypeId × Value → H) :
    ReturnsInHanded {} Tryz.checked os 5 .any (Rows.fnExactLargestDriftSpec.pre6 enc Tryz.prog Tryz.f5 Rows.fnExactLargestDriftRow.domain false) (Rows.fnExactLargestDriftSpec.post enc Tryz.prog Tryz.f5 false true false false) := by
  refine returnsInHanded_of_change (C := Tryz.checked) own_ started (by kernel_rfl) Tryz.func5
    (ChangeSpec.witness6 (enc := enc) (C := Tryz.checked) false ⟨#[], #[.agg #[.slice none 0 0, .int .i64 0, .int .i64 0, .int .i64 0, .int .i64 0, .int .i64 0, .slice none 0 0, .slice none 0 0], .agg #[.slice none 0 0], .agg #[.int .i64 0, .int .i64 0, .int .i64 0], .int .i64 0], []⟩ 8 (by kernel_rfl) (by kernel_rfl) (by kernel_rfl) (by kernel_rfl)) ?_
  intro W base args ds gs before hval0 hW hcnd _
  have hval : ∀ (j : Nat) t v, Tryz.f5.params[j]? = some t → args[j]? = some v → Value.okWide Tryz.prog W .any base t v := hval0
  have hW' := hW
  obtain ⟨p, q, hA0, hV, rfl, hfz, hnd⟩ := hW
  have hA : DataW.TrodAll enc Tryz.prog W 0 (fun _ => true) true Tryz.f5.params.toList args.toList ds p := hA0
  rw [Tryz.params5] at hA hval
  obtain ⟨v0, vs0, d0, ds0, p0, q0, hargs, rfl, rfl, h0, r0⟩ := trodAll_cons hA
  obtain ⟨v1, vs1, d1, ds1, p1, q1, rfl, rfl, rfl, h1, r1⟩ := trodAll_cons r0
  obtain ⟨v2, vs2, d2, ds2, p2, q2, rfl, rfl, rfl, h2, r2⟩ := trodAll_cons r1
  obtain ⟨v3, vs3, d3, ds3, p3, q3, rfl, rfl, rfl, h3, r3⟩ := trodAll_cons r2
  obtain ⟨rfl, rfl, rfl⟩ := trodAll_nil r3
  obtain rfl : args = #[v0, v1, v2, v3] := by cases args; simp_all
  obtain ⟨rfl, rfl⟩ := trodVars_none hV
  have k0 := h0
  have lt0 : ∀ x ∈ p0, x.block < W.heap.size := by obtain ⟨m, hm⟩ := k0; exact DataW.trod_lt m _ _ _ hm
  have ok0 := hval 0 27 v0 rfl rfl
  have k1 := h1
  have lt1 : ∀ x ∈ p1, x.block < W.heap.size := by obtain ⟨m, hm⟩ := k1; exact DataW.trod_lt m _ _ _ hm
  have ok1 := hval 1 25 v1 rfl rfl
  have k2 := h2
  have lt2 : ∀ x ∈ p2, x.block < W.heap.size := by obtain ⟨m, hm⟩ := k2; exact DataW.trod_lt m _ _ _ hm
  have ok2 := hval 2 50 v2 rfl rfl
  have k3 := h3
  have lt3 : ∀ x ∈ p3, x.block < W.heap.size := by obtain ⟨m, hm⟩ := k3; exact DataW.trod_lt m _ _ _ hm
  have ok3 := hval 3 3 v3 rfl rfl
  obtain ⟨r, r_a, hin_r, rfl, hl_r, hs_r⟩ := openRoom ok0 h0
  obtain ⟨p, p_a, hin_p, rfl, hl_p, hs_p⟩ := openRegion ok1 h1
  obtain ⟨s, hin_s, rfl⟩ := openSpot ok2 h2
  obtain ⟨most, hin_most, rfl⟩ := open_int1 Tryz.underlying3 ok3 h3
  refine (walkLargestDrift W r r_a hin_r hl_r hs_r p p_a hin_p hl_p hs_p s hin_s most hin_most).mono fun e W' ⟨he, bel⟩ => ?_
  subst he
  exact ⟨_, rfl, _, _, _, [], _, [], hW', trodAll_mk1 (shut_bool Tryz.underlying4 _), (trodAll_cons_mk (Below.trod laidOut_ (by kernel_rfl) (of_decide_eq_true (by kernel_rfl)) k0 bel lt0) (trodAll_cons_mk (Below.trod laidOut_ (by kernel_rfl) (of_decide_eq_true (by kernel_rfl)) k1 bel lt1) (trodAll_cons_mk (Below.trod laidOut_ (by kernel_rfl) (of_decide_eq_true (by kernel_rfl)) k2 bel lt2) (trodAll_cons_mk (Below.trod laidOut_ (by kernel_rfl) (of_decide_eq_true (by kernel_rfl)) k3 bel lt3) trodAll_mk0)))), rfl, bel.frame _, fun h => by cases h⟩

/-- The statement. -/
theorem law_LargestDrift : Rows.FnExactLargestDriftSaid :=
  OpenClaim.holds_of_wide 5 Tryz.f5 rfl rfl rfl rfl rfl rfl rfl ⟨rfl, rfl, rfl, rfl, rfl⟩ rfl rfl rfl rfl rfl (by kernel_rfl) Tryz.func5 (by kernel_rfl)
    (of_decide_eq_true (by kernel_rfl)) (by unfold Func.isWrapper; first | (rw [if_pos (by decide +kernel)]; kernel_rfl) | (rw [if_neg (by decide +kernel)]; exact ⟨rfl, rfl⟩))
    (fun os started H enc _ => lifted_LargestDrift os started H enc)
#print axioms law_LargestDrift
end Go.Proofs.YtdncnhcffbgjhaaGreat
