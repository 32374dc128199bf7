/-
  For every input FnExactWatchOk returns true: the program's WatchOk and the reference's agree.
  Conditions: none.
-/
import Derived.Test.YtdncnhcffbgjhaaGreatWatS
import Derived.Test.YtdncnhcffbgjhaaGreatGrO
import Derived.Test.YtdncnhcffbgjhaaGreatLat
import Derived.Test.YtdncnhcffbgjhaaGreatInv2
namespace Go.Proofs.YtdncnhcffbgjhaaGreat
open Go.RowKit Go.ChangeShapes Go.WideShapes Go.ChangeAt Go.Deep

set_option maxRecDepth 100000 in
set_option maxHeartbeats 8000000 in
theorem walkWatchOk (w : World) (x : Watch) (x_a : WatchA) (hin_x : WatchIn x) (hl_x : List.length x.room.map ≤ 9223372036854775807 ∧ List.length x.room.noise ≤ 9223372036854775807 ∧ List.length x.room.limits ≤ 9223372036854775807 ∧ List.length x.reg ≤ 9223372036854775807 ∧ List.length x.log ≤ 9223372036854775807) (hs_x : WatchSl w x x_a) :
    Calls Tryz.prog 6 #[.agg #[.slice x_a.room.map.A x.room.map.length x_a.room.map.c, .int .i64 x.room.div, .int .i64 x.room.bx, .int .i64 x.room.by_, .int .i64 x.room.low, .int .i64 x.room.high, .slice x_a.room.noise.A x.room.noise.length x_a.room.noise.c, .slice x_a.room.limits.A x.room.limits.length x_a.room.limits.c, .slice x_a.reg.A x.reg.length x_a.reg.c, .slice x_a.log.A x.log.length x_a.log.c]] w fun e w' => e = .returned (.bool true) ∧ Below w.heap.size w w' := by
 refine calls_v Tryz.func6 rfl (n := 27) Tryz.ntmps6 (by simp) ?_
 intro a0 hz hdf ha
 have s0 : a0.tmps[0]?.getD undef = .agg #[.slice x_a.room.map.A x.room.map.length x_a.room.map.c, .int .i64 x.room.div, .int .i64 x.room.bx, .int .i64 x.room.by_, .int .i64 x.room.low, .int .i64 x.room.high, .slice x_a.room.noise.A x.room.noise.length x_a.room.noise.c, .slice x_a.room.limits.A x.room.limits.length x_a.room.limits.c, .slice x_a.reg.A x.reg.length x_a.reg.c, .slice x_a.log.A x.log.length x_a.log.c] := ha 0 _ rfl
 clear ha
 have hB := Below.refl w.heap.size w
 have hZ := Nat.le_refl w.heap.size
 refine wp_seq ?_
 refine wp_entry [1, 2] [.pointer (some ⟨w.heap.size, 0, none⟩), .bool false] [some (.cells [.slice x_a.room.map.A x.room.map.length x_a.room.map.c, .int .i64 x.room.div, .int .i64 x.room.bx, .int .i64 x.room.by_, .int .i64 x.room.low, .int .i64 x.room.high, .slice x_a.room.noise.A x.room.noise.length x_a.room.noise.c, .slice x_a.room.limits.A x.room.limits.length x_a.room.limits.c, .slice x_a.reg.A x.reg.length x_a.reg.c, .slice x_a.log.A x.log.length x_a.log.c].toArray 64), none] [0, 1] [1, 2] [0, 1] (by kernel_rfl) (by rw [hz]; decide) (ec ?_ (ec ?_ .nil)) ?_
 · intro a w' hF hs N Q hN; simp [go_sem, hF.g rfl s0]; rw [hs]; exact hN
 · intro a w' hF hs N Q hN; simp [go_sem]; exact hN
 intro a1 w2 hF hV hb hO
 replace hz := hF.size.trans hz
 replace hdf := hF.defers.trans hdf
 have s1 : a1.tmps[1]?.getD undef = .pointer (some ⟨w.heap.size, 0, none⟩) := hV 0 (by decide)
 have b3 : HasT w2 w.heap.size 64 [.slice x_a.room.map.A x.room.map.length x_a.room.map.c, .int .i64 x.room.div, .int .i64 x.room.bx, .int .i64 x.room.by_, .int .i64 x.room.low, .int .i64 x.room.high, .slice x_a.room.noise.A x.room.noise.length x_a.room.noise.c, .slice x_a.room.limits.A x.room.limits.length x_a.room.limits.c, .slice x_a.reg.A x.reg.length x_a.reg.c, .slice x_a.log.A x.log.length x_a.log.c] := hO 0 _ rfl
 have hG := b3.lt
 replace hB := below_tr hB hb
 have zw2 := Nat.le_trans hZ hb.size
 replace hZ := Nat.le_refl w2.heap.size
 clear hF hV hb hO s0
 refine th_n ?_
 refine wp_seq ?_
 refine wp_regJ (by kernel_rfl) [3] [some (.int .i64 1048576)] ((List.range 1).map List.range) [3] [0] [] (fun _ _ _ => True) (by kernel_rfl) (by rw [hz]; decide) ?_ (ec ?_ .nil) ?_
 · exact fun _ _ => trivial
 · exact fun Lk ak ww hL hdd haa hF hK hV hX _ _ hN => wnt rfl (wp_assign rfl rfl (hN _ _ hK rfl trivial))
 intro L a4 w5 hL hF hK hV hX
 replace hz := hF.size.trans hz
 replace hdf := hF.defers.trans hdf
 replace s1 := hF.g rfl s1
 have s3 : a4.tmps[3]?.getD undef = .int .i64 1048576 := hV 0 _ rfl
 replace b3 := b3.kp hK (by simp)
 replace hZ := Nat.le_trans hZ hK.size
 replace hB := hK.below0 hB
 clear hF hK hV hL hX
 refine th_n ?_
 refine wp_seq ?_
 rcases Bool.eq_false_or_eq_true (decide (1048576 - ((watchLen x : Nat) : Int) < 0)) with q6 | q6
 · skip
   refine wp_regJ (by kernel_rfl) [7, 8, 9, 3] [some (.agg #[.slice x_a.room.map.A x.room.map.length x_a.room.map.c, .int .i64 x.room.div, .int .i64 x.room.bx, .int .i64 x.room.by_, .int .i64 x.room.low, .int .i64 x.room.high, .slice x_a.room.noise.A x.room.noise.length x_a.room.noise.c, .slice x_a.room.limits.A x.room.limits.length x_a.room.limits.c, .slice x_a.reg.A x.reg.length x_a.reg.c, .slice x_a.log.A x.log.length x_a.log.c]), some (.int .i64 1048576), some (.int .i64 (-1)), some (.int .i64 (-1))] ((List.range 4).map List.range) [7, 8, 9, 3] [0, 1, 2, 3] [] (fun L aa ww => (L 3 = false → aa.tmps[3]?.getD undef = .int .i64 1048576)) (by kernel_rfl) (by rw [hz]; decide) ?_ (ec ?_ (ec ?_ (ec ?_ (ec ?_ .nil)))) ?_
   · exact fun _ h => (fun _ => s3)
   · intro Lk ak ww hL hdd haa hF hK hV hX _ _ hN; refine wnt rfl ?_
     simp [go_sem, hF.g rfl s1, (b3.kp hK (by simp)).cell]
     exact (hN _ _ hK rfl (fun h => (put_ne' (by decide) _).trans (hX h)))
   · intro Lk ak ww hL hdd haa hF hK hV hX _ _ hN
     have x0 := hX
     refine wnt rfl ?_
     exact wp_move rfl (ev (x0 (haa 3 rfl))) (hN _ _ hK rfl (fun h => (put_ne' (by decide) _).trans (x0 h)))
   · intro Lk ak ww hL hdd haa hF hK hV hX _ _ hN; refine wnt rfl ?_
     simp [go_sem, (gS ak 7 (hV 0 _ rfl (hdd 0 rfl))), (gS ak 8 (hV 1 _ rfl (hdd 1 rfl)))]
     refine (szWatch_c x x_a 1048576 ww hl_x (by omega) (by omega)).mono ?_
     rintro x wx ⟨rfl, hb⟩
     exact (hN _ _ (hK.call hb) (congrArg (Value.int .i64) (if_pos (dec_t q6))) (fun h => (put_ne' (by decide) _).trans (hX h)))
   · intro Lk ak ww hL hdd haa hF hK hV hX _ _ hN
     have x0 := hX
     refine wnt rfl ?_
     exact wp_assign rfl (ev (hV 2 _ rfl (hdd 2 rfl))) (hN _ _ hK rfl (fun h => by simp [upd] at h))
   intro L a7 w8 hL hF hK hV hX
   have x0 := hX
   replace hz := hF.size.trans hz
   replace hdf := hF.defers.trans hdf
   replace s1 := hF.g rfl s1
   have s3 : a7.tmps[3]?.getD undef = .int .i64 (-1) := hV 3 _ rfl
   replace b3 := b3.kp hK (by simp)
   replace hZ := Nat.le_trans hZ hK.size
   replace hB := hK.below0 hB
   clear hF hK hV hL x0
   refine th_n ?_
   refine wp_seq ?_
   refine wp_seq ?_
   refine wp_regJ (by kernel_rfl) [10, 11] [some (.int .i64 (-1)), some (.bool true)] ((List.range 2).map List.range) [10, 11] [0, 1] [] (fun _ _ _ => True) (by kernel_rfl) (by rw [hz]; decide) ?_ (ec ?_ (ec ?_ .nil)) ?_
   · exact fun _ _ => trivial
   · exact fun Lk ak ww hL hdd haa hF hK hV hX _ _ hN => wnt rfl (wp_move rfl (ev (hF.g rfl s3)) (hN _ _ hK rfl trivial))
   · exact fun Lk ak ww hL hdd haa hF hK hV hX _ _ hN => wnt rfl (wp_bin rfl (ev (hV 0 _ rfl (hdd 0 rfl))) rfl rfl rfl (hN _ _ hK rfl trivial))
   intro L a9 w10 hL hF hK hV hX
   replace hz := hF.size.trans hz
   replace hdf := hF.defers.trans hdf
   replace s1 := hF.g rfl s1
   have s11 : a9.tmps[11]?.getD undef = .bool true := hV 1 _ rfl
   replace b3 := b3.kp hK (by simp)
   replace hZ := Nat.le_trans hZ hK.size
   replace hB := hK.below0 hB
   clear hF hK hV hL hX s3
   refine th_n ?_
   refine wp_cond_true (ev s11) ?_
   refine wp_seq ?_
   refine wp_regJ (by kernel_rfl) [2] [some (.bool true)] ((List.range 1).map List.range) [2] [0] [] (fun _ _ _ => True) (by kernel_rfl) (by rw [hz]; decide) ?_ (ec ?_ .nil) ?_
   · exact fun _ _ => trivial
   · exact fun Lk ak ww hL hdd haa hF hK hV hX _ _ hN => wnt rfl (wp_assign rfl rfl (hN _ _ hK rfl trivial))
   intro L a11 w12 hL hF hK hV hX
   replace hz := hF.size.trans hz
   replace hdf := hF.defers.trans hdf
   have s2 : a11.tmps[2]?.getD undef = .bool true := hV 0 _ rfl
   replace hZ := Nat.le_trans hZ hK.size
   replace hB := hK.below0 hB
   clear hF hK hV hL hX s1 s11 b3
   refine th_n ?_
   refine wp_ret ?_
   refine th_r ?_
   refine bodyPost_ret (v := .bool true) (by simp [results, Tryz.results6, go_sem, s2]) hdf ?_
   exact ⟨rfl, hB⟩
 · skip
   refine wp_regJ (by kernel_rfl) [7, 8, 9, 3] [some (.agg #[.slice x_a.room.map.A x.room.map.length x_a.room.map.c, .int .i64 x.room.div, .int .i64 x.room.bx, .int .i64 x.room.by_, .int .i64 x.room.low, .int .i64 x.room.high, .slice x_a.room.noise.A x.room.noise.length x_a.room.noise.c, .slice x_a.room.limits.A x.room.limits.length x_a.room.limits.c, .slice x_a.reg.A x.reg.length x_a.reg.c, .slice x_a.log.A x.log.length x_a.log.c]), some (.int .i64 1048576), some (.int .i64 (1048576 - ((watchLen x : Nat) : Int))), some (.int .i64 (1048576 - ((watchLen x : Nat) : Int)))] ((List.range 4).map List.range) [7, 8, 9, 3] [0, 1, 2, 3] [] (fun L aa ww => (L 3 = false → aa.tmps[3]?.getD undef = .int .i64 1048576)) (by kernel_rfl) (by rw [hz]; decide) ?_ (ec ?_ (ec ?_ (ec ?_ (ec ?_ .nil)))) ?_
   · exact fun _ h => (fun _ => s3)
   · intro Lk ak ww hL hdd haa hF hK hV hX _ _ hN; refine wnt rfl ?_
     simp [go_sem, hF.g rfl s1, (b3.kp hK (by simp)).cell]
     exact (hN _ _ hK rfl (fun h => (put_ne' (by decide) _).trans (hX h)))
   · intro Lk ak ww hL hdd haa hF hK hV hX _ _ hN
     have x0 := hX
     refine wnt rfl ?_
     exact wp_move rfl (ev (x0 (haa 3 rfl))) (hN _ _ hK rfl (fun h => (put_ne' (by decide) _).trans (x0 h)))
   · intro Lk ak ww hL hdd haa hF hK hV hX _ _ hN; refine wnt rfl ?_
     simp [go_sem, (gS ak 7 (hV 0 _ rfl (hdd 0 rfl))), (gS ak 8 (hV 1 _ rfl (hdd 1 rfl)))]
     refine (szWatch_c x x_a 1048576 ww hl_x (by omega) (by omega)).mono ?_
     rintro x wx ⟨rfl, hb⟩
     exact (hN _ _ (hK.call hb) (congrArg (Value.int .i64) (if_neg (dec_f q6))) (fun h => (put_ne' (by decide) _).trans (hX h)))
   · intro Lk ak ww hL hdd haa hF hK hV hX _ _ hN
     have x0 := hX
     refine wnt rfl ?_
     exact wp_assign rfl (ev (hV 2 _ rfl (hdd 2 rfl))) (hN _ _ hK rfl (fun h => by simp [upd] at h))
   intro L a13 w14 hL hF hK hV hX
   have x0 := hX
   replace hz := hF.size.trans hz
   replace hdf := hF.defers.trans hdf
   replace s1 := hF.g rfl s1
   have s3 : a13.tmps[3]?.getD undef = .int .i64 (1048576 - ((watchLen x : Nat) : Int)) := hV 3 _ rfl
   replace b3 := b3.kp hK (by simp)
   replace hZ := Nat.le_trans hZ hK.size
   replace hB := hK.below0 hB
   clear hF hK hV hL x0
   refine th_n ?_
   refine wp_seq ?_
   refine wp_seq ?_
   refine wp_regJ (by kernel_rfl) [10, 11] [some (.int .i64 (1048576 - ((watchLen x : Nat) : Int))), some (.bool (decide (1048576 - ((watchLen x : Nat) : Int) < 0)))] ((List.range 2).map List.range) [10, 11] [0, 1] [] (fun _ _ _ => True) (by kernel_rfl) (by rw [hz]; decide) ?_ (ec ?_ (ec ?_ .nil)) ?_
   · exact fun _ _ => trivial
   · exact fun Lk ak ww hL hdd haa hF hK hV hX _ _ hN => wnt rfl (wp_move rfl (ev (hF.g rfl s3)) (hN _ _ hK rfl trivial))
   · exact fun Lk ak ww hL hdd haa hF hK hV hX _ _ hN => wnt rfl (wp_bin rfl (ev (hV 0 _ rfl (hdd 0 rfl))) rfl rfl rfl (hN _ _ hK rfl trivial))
   intro L a15 w16 hL hF hK hV hX
   replace hz := hF.size.trans hz
   replace hdf := hF.defers.trans hdf
   replace s1 := hF.g rfl s1
   have s11 : a15.tmps[11]?.getD undef = .bool (decide (1048576 - ((watchLen x : Nat) : Int) < 0)) := hV 1 _ rfl
   replace b3 := b3.kp hK (by simp)
   replace hZ := Nat.le_trans hZ hK.size
   replace hB := hK.below0 hB
   clear hF hK hV hL hX s3
   refine th_n ?_
   refine wp_cond_false (ev (vb s11 q6)) ?_
   refine wp_skip ?_
   refine th_n ?_
   refine wp_seq ?_
   refine wp_regJ (by kernel_rfl) [12, 13, 14, 4] [some (.agg #[.slice x_a.room.map.A x.room.map.length x_a.room.map.c, .int .i64 x.room.div, .int .i64 x.room.bx, .int .i64 x.room.by_, .int .i64 x.room.low, .int .i64 x.room.high, .slice x_a.room.noise.A x.room.noise.length x_a.room.noise.c, .slice x_a.room.limits.A x.room.limits.length x_a.room.limits.c, .slice x_a.reg.A x.reg.length x_a.reg.c, .slice x_a.log.A x.log.length x_a.log.c]), none, some (.bool (watchB x.room x.reg x.log)), some (.bool (watchB x.room x.reg x.log))] ((List.range 4).map List.range) [12, 13, 14, 4] [0, 1, 2, 3] [] (fun L aa ww => (L 1 = true → (fun ww v => ∃ m1, v = .agg #[.slice m1.room.map.A x.room.map.length m1.room.map.c, .int .i64 x.room.div, .int .i64 x.room.bx, .int .i64 x.room.by_, .int .i64 x.room.low, .int .i64 x.room.high, .slice m1.room.noise.A x.room.noise.length m1.room.noise.c, .slice m1.room.limits.A x.room.limits.length m1.room.limits.c, .slice m1.reg.A x.reg.length m1.reg.c, .slice m1.log.A x.log.length m1.log.c] ∧ WatchNew ww w16.heap.size x m1) ww (aa.tmps[13]?.getD undef))) (by kernel_rfl) (by rw [hz]; decide) ?_ (ec ?_ (ec ?_ (ec ?_ (ec ?_ .nil)))) ?_
   · exact fun _ h => (fun h => by cases h)
   · intro Lk ak ww hL hdd haa hF hK hV hX _ _ hN; refine wnt rfl ?_
     simp [go_sem, hF.g rfl s1, (b3.kp hK (by simp)).cell]
     exact (hN _ _ hK rfl (fun h => by rw [put_ne' (by decide)]; obtain ⟨m1', e, f1'⟩ := hX h; exact ⟨m1', e, f1'.below bR leR⟩))
   · intro Lk ak ww hL hdd haa hF hK hV hX _ _ hN
     have x0 := hX
     refine wnt rfl ?_
     simp [go_sem, (gS ak 12 (hV 0 _ rfl (hdd 0 rfl)))]
     have hBi := hK.below0 hB
     refine (toWatch_c x x_a ww (by have := dec_f q6; (try unfold regionLen at *); omega) (hs_x.below hBi)).mono ?_
     rintro x wx ⟨m1, rfl, f0, hb⟩
     have f1 := f0.mono hK.size
     exact (hN _ _ (hK.call hb) trivial (fun _ => by rw [put_get_self (hF.lt (by rw [hz]; decide))]; exact ⟨m1, rfl, f1⟩))
   · intro Lk ak ww hL hdd haa hF hK hV hX _ _ hN
     have x0 := hX
     refine wnt rfl ?_
     obtain ⟨m1, ee1, f1⟩ := x0 (hdd 1 rfl)
     simp [go_sem, ee1]
     refine (sWatchOk_c x.room x.reg x.log m1.room m1.reg ww (by have := (by have := dec_f q6; (try unfold regionLen at *); omega); unfold watchLen at this; unfold roomLen; omega) hin_x.room f1.sl.room f1.room.nil (by have := (by have := dec_f q6; (try unfold regionLen at *); omega); unfold watchLen at this; omega) hin_x.reg.halves f1.sl.reg.halves f1.reg.halves.nilcap m1.log (by have := (by have := dec_f q6; (try unfold regionLen at *); omega); unfold watchLen at this; omega) f1.sl.log).mono ?_
     rintro x wx ⟨rfl, hb⟩
     exact (hN _ _ (hK.call hb) rfl (fun h => by rw [put_ne' (by decide)]; obtain ⟨m1', e, f1'⟩ := x0 h; exact ⟨m1', e, f1'.below hb leR⟩))
   · exact fun Lk ak ww hL hdd haa hF hK hV hX _ _ hN => wnt rfl (wp_assign rfl (ev (hV 2 _ rfl (hdd 2 rfl))) (hN _ _ hK rfl (fun h => by rw [put_ne' (by decide)]; obtain ⟨m1', e, f1'⟩ := hX h; exact ⟨m1', e, f1'.below bR leR⟩)))
   intro L a17 w18 hL hF hK hV hX
   have x0 := hX
   replace hz := hF.size.trans hz
   replace hdf := hF.defers.trans hdf
   replace s1 := hF.g rfl s1
   have s4 : a17.tmps[4]?.getD undef = .bool (watchB x.room x.reg x.log) := hV 3 _ rfl
   replace b3 := b3.kp hK (by simp)
   replace hZ := Nat.le_trans hZ hK.size
   replace hB := hK.below0 hB
   clear hF hK hV hL x0 s11
   refine th_n ?_
   refine wp_seq ?_
   refine wp_regJ (by kernel_rfl) [15, 16, 5, 0] [some (.agg #[.slice x_a.room.map.A x.room.map.length x_a.room.map.c, .int .i64 x.room.div, .int .i64 x.room.bx, .int .i64 x.room.by_, .int .i64 x.room.low, .int .i64 x.room.high, .slice x_a.room.noise.A x.room.noise.length x_a.room.noise.c, .slice x_a.room.limits.A x.room.limits.length x_a.room.limits.c, .slice x_a.reg.A x.reg.length x_a.reg.c, .slice x_a.log.A x.log.length x_a.log.c]), none, none, none] ((List.range 4).map List.range) [15, 16, 5] [0, 1, 2, 3] [] (fun L aa ww => (L 1 = true → (fun ww v => ∃ m2, v = .agg #[.slice m2.room.map.A x.room.map.length m2.room.map.c, .int .i64 x.room.div, .int .i64 x.room.bx, .int .i64 x.room.by_, .int .i64 x.room.low, .int .i64 x.room.high, .slice m2.room.noise.A x.room.noise.length m2.room.noise.c, .slice m2.room.limits.A x.room.limits.length m2.room.limits.c, .slice m2.reg.A x.reg.length m2.reg.c, .slice m2.log.A x.log.length m2.log.c] ∧ WatchNew ww w18.heap.size x m2) ww (aa.tmps[16]?.getD undef)) ∧ (L 2 = true → BoxX w18 aa ww 5 68 [.slice none 0 0, .int .i64 0, .int .i64 0, .int .i64 0, .int .i64 0, .int .i64 0, .slice none 0 0, .slice none 0 0, .slice none 0 0, .slice none 0 0] (L 3) (fun ww vs => ∃ m2, vs = [.slice m2.room.map.A x.room.map.length m2.room.map.c, .int .i64 x.room.div, .int .i64 x.room.bx, .int .i64 x.room.by_, .int .i64 x.room.low, .int .i64 x.room.high, .slice m2.room.noise.A x.room.noise.length m2.room.noise.c, .slice m2.room.limits.A x.room.limits.length m2.room.limits.c, .slice m2.reg.A x.reg.length m2.reg.c, .slice m2.log.A x.log.length m2.log.c] ∧ WatchNew ww w18.heap.size x m2))) (by kernel_rfl) (by rw [hz]; decide) ?_ (ec ?_ (ec ?_ (ec ?_ (ec ?_ .nil)))) ?_
   · exact fun _ h => ⟨(fun h => by cases h), (fun h => by cases h)⟩
   · intro Lk ak ww hL hdd haa hF hK hV hX _ _ hN; refine wnt rfl ?_
     simp [go_sem, hF.g rfl s1, (b3.kp hK (by simp)).cell]
     exact (hN _ _ hK rfl ⟨(fun h => by rw [put_ne' (by decide)]; obtain ⟨m2', e, f2'⟩ := hX.1 h; exact ⟨m2', e, f2'.below bR leR⟩), (fun h => ((hX.2 h).bel bR (fun _ ⟨m2', e, f2'⟩ => ⟨m2', e, f2'.below bR leR⟩)).put (by decide) _)⟩)
   · intro Lk ak ww hL hdd haa hF hK hV hX _ _ hN
     obtain ⟨x0, x1⟩ := hX
     refine wnt rfl ?_
     simp [go_sem, (gS ak 15 (hV 0 _ rfl (hdd 0 rfl)))]
     have hBi := hK.below0 hB
     refine (toWatch_c x x_a ww (by have := dec_f q6; (try unfold regionLen at *); omega) (hs_x.below hBi)).mono ?_
     rintro x wx ⟨m2, rfl, f0, hb⟩
     have f2 := f0.mono hK.size
     exact (hN _ _ (hK.call hb) trivial ⟨(fun _ => by rw [put_get_self (hF.lt (by rw [hz]; decide))]; exact ⟨m2, rfl, f2⟩), (fun h => ((x1 h).bel hb (fun _ ⟨m2', e, f2'⟩ => ⟨m2', e, f2'.below hb leR⟩)).put (by decide) _)⟩)
   · intro Lk ak ww hL hdd haa hF hK hV hX _ _ hN
     obtain ⟨x0, x1⟩ := hX
     refine wnt rfl ?_
     simp [go_sem]
     exact hN _ _ (hK.alloc _) trivial ⟨(fun h => by rw [put_ne' (by decide)]; obtain ⟨m2', e, f2'⟩ := x0 h; exact ⟨m2', e, f2'.below (below_al bR _) leR⟩), (fun _ => by rw [show upd Lk 2 3 = false from haa 3 rfl]; exact BoxX.new (s := 5) (hF.lt (by rw [hz]; decide)) hK.size [.slice none 0 0, .int .i64 0, .int .i64 0, .int .i64 0, .int .i64 0, .int .i64 0, .slice none 0 0, .slice none 0 0, .slice none 0 0, .slice none 0 0])⟩
   · intro Lk ak ww hL hdd haa hF hK hV hX _ _ hN
     obtain ⟨x0, x1⟩ := hX
     refine wnt rfl ?_
     obtain ⟨m2, ee1, f2⟩ := x0 (hdd 1 rfl)
     obtain ⟨g, eg, hg, y, _⟩ := x1 (hdd 2 rfl)
     have HT := y hL
     simp [go_sem, ee1, eg, HT.cell, HT.frz]
     have f2 := f2.otherT HT (by decide) (by decide) [.slice m2.room.map.A x.room.map.length m2.room.map.c, .int .i64 x.room.div, .int .i64 x.room.bx, .int .i64 x.room.by_, .int .i64 x.room.low, .int .i64 x.room.high, .slice m2.room.noise.A x.room.noise.length m2.room.noise.c, .slice m2.room.limits.A x.room.limits.length m2.room.limits.c, .slice m2.reg.A x.reg.length m2.reg.c, .slice m2.log.A x.log.length m2.log.c] 0
     exact hN undef _ (hK.store (.inl hg) [.slice m2.room.map.A x.room.map.length m2.room.map.c, .int .i64 x.room.div, .int .i64 x.room.bx, .int .i64 x.room.by_, .int .i64 x.room.low, .int .i64 x.room.high, .slice m2.room.noise.A x.room.noise.length m2.room.noise.c, .slice m2.room.limits.A x.room.limits.length m2.room.limits.c, .slice m2.reg.A x.reg.length m2.reg.c, .slice m2.log.A x.log.length m2.log.c] 0) trivial ⟨(fun h => by obtain ⟨m2', e, f2'⟩ := x0 h; exact ⟨m2', e, f2'.otherT HT (by decide) (by decide) [.slice m2.room.map.A x.room.map.length m2.room.map.c, .int .i64 x.room.div, .int .i64 x.room.bx, .int .i64 x.room.by_, .int .i64 x.room.low, .int .i64 x.room.high, .slice m2.room.noise.A x.room.noise.length m2.room.noise.c, .slice m2.room.limits.A x.room.limits.length m2.room.limits.c, .slice m2.reg.A x.reg.length m2.reg.c, .slice m2.log.A x.log.length m2.log.c] 0⟩), (fun _ => BoxX.set eg hg HT (us := [.slice m2.room.map.A x.room.map.length m2.room.map.c, .int .i64 x.room.div, .int .i64 x.room.bx, .int .i64 x.room.by_, .int .i64 x.room.low, .int .i64 x.room.high, .slice m2.room.noise.A x.room.noise.length m2.room.noise.c, .slice m2.room.limits.A x.room.limits.length m2.room.limits.c, .slice m2.reg.A x.reg.length m2.reg.c, .slice m2.log.A x.log.length m2.log.c]) rfl ⟨m2, rfl, f2⟩)⟩
   intro L a19 w20 hL hF hK hV hX
   obtain ⟨x0, x1⟩ := hX
   replace hz := hF.size.trans hz
   replace hdf := hF.defers.trans hdf
   replace s1 := hF.g rfl s1
   replace s4 := hF.g rfl s4
   replace b3 := b3.kp hK (by simp)
   obtain ⟨g21, s5, lg21, -, b21⟩ := x1 (hL 2 (by decide))
   obtain ⟨_, b21, m2, rfl, N2⟩ := b21 (hL 3 (by decide))
   have ug21 := b21.lt
   have zw18 := hZ
   have zw20 := hK.size
   replace hZ := Nat.le_refl w20.heap.size
   replace hB := hK.below0 hB
   clear hF hK hV hL x0 x1
   refine th_n ?_
   refine wp_seq ?_
   refine wp_regJ (by kernel_rfl) [17, 18, 6] [some (.agg #[.slice m2.room.map.A x.room.map.length m2.room.map.c, .int .i64 x.room.div, .int .i64 x.room.bx, .int .i64 x.room.by_, .int .i64 x.room.low, .int .i64 x.room.high, .slice m2.room.noise.A x.room.noise.length m2.room.noise.c, .slice m2.room.limits.A x.room.limits.length m2.room.limits.c, .slice m2.reg.A x.reg.length m2.reg.c, .slice m2.log.A x.log.length m2.log.c]), some (.bool (watchB x.room x.reg x.log)), some (.bool (watchB x.room x.reg x.log))] ((List.range 3).map List.range) [17, 18, 6] [0, 1, 2] [] (fun _ _ _ => True) (by kernel_rfl) (by rw [hz]; decide) ?_ (ec ?_ (ec ?_ (ec ?_ .nil))) ?_
   · exact fun _ _ => trivial
   · intro Lk ak ww hL hdd haa hF hK hV hX _ _ hN; refine wnt rfl ?_
     simp [go_sem, hF.g rfl s5, (b21.kp hK (by simp)).cell]
     exact (hN _ _ hK rfl trivial)
   · intro Lk ak ww hL hdd haa hF hK hV hX _ _ hN; refine wnt rfl ?_
     simp [go_sem, (gS ak 17 (hV 0 _ rfl (hdd 0 rfl)))]
     refine (iWatchOk_c x.room x.reg x.log m2.room m2.reg ww (by have := (by have := dec_f q6; (try unfold regionLen at *); omega); unfold watchLen at this; unfold roomLen; omega) hin_x.room ((N2.below hK.toBelow leR).sl).room N2.room.nil (by have := (by have := dec_f q6; (try unfold regionLen at *); omega); unfold watchLen at this; omega) hin_x.reg.halves ((N2.below hK.toBelow leR).sl).reg.halves N2.reg.halves.nilcap m2.log (by have := (by have := dec_f q6; (try unfold regionLen at *); omega); unfold watchLen at this; omega) ((N2.below hK.toBelow leR).sl).log).mono ?_
     rintro x wx ⟨rfl, hb⟩
     exact (hN _ _ (hK.call hb) rfl trivial)
   · exact fun Lk ak ww hL hdd haa hF hK hV hX _ _ hN => wnt rfl (wp_assign rfl (ev (hV 1 _ rfl (hdd 1 rfl))) (hN _ _ hK rfl trivial))
   intro L a22 w23 hL hF hK hV hX
   replace hz := hF.size.trans hz
   replace hdf := hF.defers.trans hdf
   replace s1 := hF.g rfl s1
   replace s4 := hF.g rfl s4
   replace s5 := hF.g rfl s5
   have s6 : a22.tmps[6]?.getD undef = .bool (watchB x.room x.reg x.log) := hV 2 _ rfl
   replace b3 := b3.kp hK (by simp)
   replace b21 := b21.kp hK (by simp)
   replace N2 := N2.below hK.toBelow leR
   replace hZ := Nat.le_trans hZ hK.size
   replace hB := hK.below0 hB
   clear hF hK hV hL hX
   refine th_n ?_
   refine wp_seq ?_
   refine wp_seq ?_
   refine wp_regJ (by kernel_rfl) [19, 20, 21] [some (.bool (watchB x.room x.reg x.log)), some (.bool (watchB x.room x.reg x.log)), some (.bool false)] ((List.range 3).map List.range) [19, 20, 21] [0, 1, 2] [] (fun _ _ _ => True) (by kernel_rfl) (by rw [hz]; decide) ?_ (ec ?_ (ec ?_ (ec ?_ .nil))) ?_
   · exact fun _ _ => trivial
   · exact fun Lk ak ww hL hdd haa hF hK hV hX _ _ hN => wnt rfl (wp_move rfl (ev (hF.g rfl s6)) (hN _ _ hK rfl trivial))
   · exact fun Lk ak ww hL hdd haa hF hK hV hX _ _ hN => wnt rfl (wp_move rfl (ev (hF.g rfl s4)) (hN _ _ hK rfl trivial))
   · intro Lk ak ww hL hdd haa hF hK hV hX _ _ hN; refine wnt rfl ?_
     simp [go_sem, (gS ak 19 (hV 0 _ rfl (hdd 0 rfl))), (gS ak 20 (hV 1 _ rfl (hdd 1 rfl)))]
     exact (hN _ _ hK rfl trivial)
   intro L a24 w25 hL hF hK hV hX
   replace hz := hF.size.trans hz
   replace hdf := hF.defers.trans hdf
   replace s1 := hF.g rfl s1
   replace s5 := hF.g rfl s5
   have s21 : a24.tmps[21]?.getD undef = .bool false := hV 2 _ rfl
   replace b3 := b3.kp hK (by simp)
   replace b21 := b21.kp hK (by simp)
   replace N2 := N2.below hK.toBelow leR
   replace hZ := Nat.le_trans hZ hK.size
   replace hB := hK.below0 hB
   clear hF hK hV hL hX s4 s6
   refine th_n ?_
   refine wp_cond_false (ev s21) ?_
   refine wp_skip ?_
   refine th_n ?_
   refine wp_seq ?_
   refine wp_seq ?_
   refine wp_regJ (by kernel_rfl) [22, 23, 24, 25, 26] [some (.agg #[.slice m2.room.map.A x.room.map.length m2.room.map.c, .int .i64 x.room.div, .int .i64 x.room.bx, .int .i64 x.room.by_, .int .i64 x.room.low, .int .i64 x.room.high, .slice m2.room.noise.A x.room.noise.length m2.room.noise.c, .slice m2.room.limits.A x.room.limits.length m2.room.limits.c, .slice m2.reg.A x.reg.length m2.reg.c, .slice m2.log.A x.log.length m2.log.c]), some (.agg #[.slice x_a.room.map.A x.room.map.length x_a.room.map.c, .int .i64 x.room.div, .int .i64 x.room.bx, .int .i64 x.room.by_, .int .i64 x.room.low, .int .i64 x.room.high, .slice x_a.room.noise.A x.room.noise.length x_a.room.noise.c, .slice x_a.room.limits.A x.room.limits.length x_a.room.limits.c, .slice x_a.reg.A x.reg.length x_a.reg.c, .slice x_a.log.A x.log.length x_a.log.c]), none, some (.bool true), some (.bool false)] ([[], [], [1], [0, 1, 2], [0, 1, 2, 3]]) [22, 23, 24, 25, 26] [0, 1, 2, 3, 4] [] (fun L aa ww => (L 2 = true → (fun ww v => ∃ m3, v = .agg #[.slice m3.room.map.A x.room.map.length m3.room.map.c, .int .i64 x.room.div, .int .i64 x.room.bx, .int .i64 x.room.by_, .int .i64 x.room.low, .int .i64 x.room.high, .slice m3.room.noise.A x.room.noise.length m3.room.noise.c, .slice m3.room.limits.A x.room.limits.length m3.room.limits.c, .slice m3.reg.A x.reg.length m3.reg.c, .slice m3.log.A x.log.length m3.log.c] ∧ WatchNew ww w25.heap.size x m3) ww (aa.tmps[24]?.getD undef))) (by kernel_rfl) (by rw [hz]; decide) ?_ (ec ?_ (ec ?_ (ec ?_ (ec ?_ (ec ?_ .nil))))) ?_
   · exact fun _ h => (fun h => by cases h)
   · intro Lk ak ww hL hdd haa hF hK hV hX _ _ hN; refine wnt rfl ?_
     simp [go_sem, hF.g rfl s5, (b21.kp hK (by simp)).cell]
     exact (hN _ _ hK rfl (fun h => by rw [put_ne' (by decide)]; obtain ⟨m3', e, f3'⟩ := hX h; exact ⟨m3', e, f3'.below bR leR⟩))
   · intro Lk ak ww hL hdd haa hF hK hV hX _ _ hN; refine wnt rfl ?_
     simp [go_sem, hF.g rfl s1, (b3.kp hK (by simp)).cell]
     exact (hN _ _ hK rfl (fun h => by rw [put_ne' (by decide)]; obtain ⟨m3', e, f3'⟩ := hX h; exact ⟨m3', e, f3'.below bR leR⟩))
   · intro Lk ak ww hL hdd haa hF hK hV hX _ _ hN
     have x0 := hX
     refine wnt rfl ?_
     simp [go_sem, (gS ak 23 (hV 1 _ rfl (hdd 1 rfl)))]
     have hBi := hK.below0 hB
     refine (toWatch_c x x_a ww (by have := dec_f q6; (try unfold regionLen at *); omega) (hs_x.below hBi)).mono ?_
     rintro x wx ⟨m3, rfl, f0, hb⟩
     have f3 := f0.mono hK.size
     exact (hN _ _ (hK.call hb) trivial (fun _ => by rw [put_get_self (hF.lt (by rw [hz]; decide))]; exact ⟨m3, rfl, f3⟩))
   · intro Lk ak ww hL hdd haa hF hK hV hX _ _ hN
     have x0 := hX
     refine wnt rfl ?_
     obtain ⟨m3, ee2, f3⟩ := x0 (hdd 2 rfl)
     simp [go_sem, (gS ak 22 (hV 0 _ rfl (hdd 0 rfl))), ee2]
     refine (eqWatch_t x m2 m3 ww (by have := dec_f q6; (try unfold regionLen at *); omega) ((N2.below hK.toBelow leR).sl) f3.sl).mono ?_
     rintro x wx ⟨rfl, hb⟩
     exact (hN _ _ (hK.call hb) rfl (fun h => by rw [put_ne' (by decide)]; obtain ⟨m3', e, f3'⟩ := x0 h; exact ⟨m3', e, f3'.below hb leR⟩))
   · exact fun Lk ak ww hL hdd haa hF hK hV hX _ _ hN => wnt rfl (wp_not rfl (ev (hV 3 _ rfl (hdd 3 rfl))) (hN _ _ hK rfl (fun h => by rw [put_ne' (by decide)]; obtain ⟨m3', e, f3'⟩ := hX h; exact ⟨m3', e, f3'.below bR leR⟩)))
   intro L a26 w27 hL hF hK hV hX
   have x0 := hX
   replace hz := hF.size.trans hz
   replace hdf := hF.defers.trans hdf
   have s26 : a26.tmps[26]?.getD undef = .bool false := hV 4 _ rfl
   replace hZ := Nat.le_trans hZ hK.size
   replace hB := hK.below0 hB
   clear hF hK hV hL x0 s1 s5 s21 b3 b21 N2
   refine th_n ?_
   refine wp_cond_false (ev s26) ?_
   refine wp_skip ?_
   refine th_n ?_
   refine wp_seq ?_
   refine wp_regJ (by kernel_rfl) [2] [some (.bool true)] ((List.range 1).map List.range) [2] [0] [] (fun _ _ _ => True) (by kernel_rfl) (by rw [hz]; decide) ?_ (ec ?_ .nil) ?_
   · exact fun _ _ => trivial
   · exact fun Lk ak ww hL hdd haa hF hK hV hX _ _ hN => wnt rfl (wp_assign rfl rfl (hN _ _ hK rfl trivial))
   intro L a28 w29 hL hF hK hV hX
   replace hz := hF.size.trans hz
   replace hdf := hF.defers.trans hdf
   have s2 : a28.tmps[2]?.getD undef = .bool true := hV 0 _ rfl
   replace hZ := Nat.le_trans hZ hK.size
   replace hB := hK.below0 hB
   clear hF hK hV hL hX s26
   refine th_n ?_
   refine wp_ret ?_
   refine bodyPost_ret (v := .bool true) (by simp [results, Tryz.results6, go_sem, s2]) hdf ?_
   exact ⟨rfl, hB⟩

set_option maxRecDepth 100000 in
theorem lifted_WatchOk (os : Os) (started : os.Started) (H : Type) (enc : TypeId × Value → H) :
    ReturnsInHanded {} Tryz.checked os 6 .any (Rows.fnExactWatchOkSpec.pre6 enc Tryz.prog Tryz.f6 Rows.fnExactWatchOkRow.domain false) (Rows.fnExactWatchOkSpec.post enc Tryz.prog Tryz.f6 false true false false) := by
  refine returnsInHanded_of_change (C := Tryz.checked) own_ started (by kernel_rfl) Tryz.func6
    (ChangeSpec.witness6 (enc := enc) (C := Tryz.checked) false ⟨#[], #[.agg #[.slice none 0 0, .int .i64 0, .int .i64 0, .int .i64 0, .int .i64 0, .int .i64 0, .slice none 0 0, .slice none 0 0, .slice none 0 0, .slice none 0 0]], []⟩ 8 (by kernel_rfl) (by kernel_rfl) (by kernel_rfl) (by kernel_rfl)) ?_
  intro W base args ds gs before hval0 hW hcnd _
  have hval : ∀ (j : Nat) t v, Tryz.f6.params[j]? = some t → args[j]? = some v → Value.okWide Tryz.prog W .any base t v := hval0
  have hW' := hW
  obtain ⟨p, q, hA0, hV, rfl, hfz, hnd⟩ := hW
  have hA : DataW.TrodAll enc Tryz.prog W 0 (fun _ => true) true Tryz.f6.params.toList args.toList ds p := hA0
  rw [Tryz.params6] at hA hval
  obtain ⟨v0, vs0, d0, ds0, p0, q0, hargs, rfl, rfl, h0, r0⟩ := trodAll_cons hA
  obtain ⟨rfl, rfl, rfl⟩ := trodAll_nil r0
  obtain rfl : args = #[v0] := by cases args; simp_all
  obtain ⟨rfl, rfl⟩ := trodVars_none hV
  have k0 := h0
  have lt0 : ∀ x ∈ p0, x.block < W.heap.size := by obtain ⟨m, hm⟩ := k0; exact DataW.trod_lt m _ _ _ hm
  have ok0 := hval 0 64 v0 rfl rfl
  obtain ⟨x, x_a, hin_x, rfl, hl_x, hs_x⟩ := openWatch ok0 h0
  refine (walkWatchOk W x x_a hin_x hl_x hs_x).mono fun e W' ⟨he, bel⟩ => ?_
  subst he
  exact ⟨_, rfl, _, _, _, [], _, [], hW', trodAll_mk1 (shut_bool Tryz.underlying4 _), (trodAll_cons_mk (Below.trod laidOut_ (by kernel_rfl) (of_decide_eq_true (by kernel_rfl)) k0 bel lt0) trodAll_mk0), rfl, bel.frame _, fun h => by cases h⟩

/-- The statement. -/
theorem law_WatchOk : Rows.FnExactWatchOkSaid :=
  OpenClaim.holds_of_wide 6 Tryz.f6 rfl rfl rfl rfl rfl rfl rfl ⟨rfl, rfl, rfl, rfl, rfl⟩ rfl rfl rfl rfl rfl (by kernel_rfl) Tryz.func6 (by kernel_rfl)
    (of_decide_eq_true (by kernel_rfl)) (by unfold Func.isWrapper; first | (rw [if_pos (by decide +kernel)]; kernel_rfl) | (rw [if_neg (by decide +kernel)]; exact ⟨rfl, rfl⟩))
    (fun os started H enc _ => lifted_WatchOk os started H enc)
#print axioms law_WatchOk
end Go.Proofs.YtdncnhcffbgjhaaGreat
