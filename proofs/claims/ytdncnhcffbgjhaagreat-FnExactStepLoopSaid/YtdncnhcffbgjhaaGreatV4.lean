/-
  Fractions rounded, clamps, inputs in a span, and the input that is picked: of the program and of the reference.
  Conditions: the numbers are ints of the machine.
-/
import Derived.Test.YtdncnhcffbgjhaaGreatPickM
namespace Go.Proofs.YtdncnhcffbgjhaaGreat
open Go.RowKit

theorem whIn {n : Int} (h : -1000000000000000000 ≤ n ∧ n ≤ 1000000000000000000) : Ratio.In ⟨n, 1⟩ := ⟨⟨by simp only; omega, by simp only; omega⟩, ⟨by simp, by simp⟩⟩
theorem clampS (wish : Int) : clampW wish = max (-1000) (min wish 1000) := by unfold clampW; omega
set_option maxRecDepth 100000 in
set_option maxHeartbeats 3000000 in
theorem ceilDiv_c (n d : Int) (w : World) (h1 : -9223372036854775807 ≤ n) (h2 : n ≤ 9223372036854775807) (hd : 0 < d) (hd2 : d ≤ 9223372036854775807) :
    Calls Tryz.prog 162 #[.int .i64 n, .int .i64 d] w fun x w' => x = .returned (.int .i64 (-(-n / d))) ∧ Below w.heap.size w w' := by
 have hdv := div_bd (n := -n) (d := d) (by omega) (by omega) hd
 refine calls_v Tryz.func162 rfl (n := 10) Tryz.ntmps162 (by simp) ?_
 intro a0 hz hdf ha
 have s0 : a0.tmps[0]?.getD undef = .int .i64 n := ha 0 _ rfl
 have s1 : a0.tmps[1]?.getD undef = .int .i64 d := ha 1 _ rfl
 clear ha
 have hB := Below.refl w.heap.size w
 have hZ := Nat.le_refl w.heap.size
 refine wp_seq ?_
 refine wp_regJ (by kernel_rfl) [4] [some (.int .i64 0)] ((List.range 1).map List.range) [4] [0] [] (fun _ _ _ => True) (by kernel_rfl) (by rw [hz]; decide) ?_ (ec ?_ .nil) ?_
 · exact fun _ _ => trivial
 · exact fun Lk ak ww hL hdd haa hF hK hV hX Nk Qk hN => wnt rfl (wp_assign rfl rfl (hN _ _ hK rfl trivial))
 intro L a1 w2 hL hF hK hV hX
 replace hz := hF.size.trans hz
 replace hdf := hF.defers.trans hdf
 replace s0 := hF.g rfl s0
 replace s1 := hF.g rfl s1
 replace hZ := Nat.le_trans hZ hK.size
 replace hB := hK.below0 hB
 clear hF hK hV hL hX
 refine th_n ?_
 refine wp_seq ?_
 refine wp_regJ (by kernel_rfl) [5, 6, 7, 8, 9, 4] [some (.int .i64 n), some (.int .i64 (-n)), some (.int .i64 d), some (.int .i64 ((-n) / d)), some (.int .i64 (-((-n) / d))), some (.int .i64 (-((-n) / d)))] ((List.range 6).map List.range) [5, 6, 7, 8, 9, 4] [0, 1, 2, 3, 4, 5] [] (fun _ _ _ => True) (by kernel_rfl) (by rw [hz]; decide) ?_ (ec ?_ (ec ?_ (ec ?_ (ec ?_ (ec ?_ (ec ?_ .nil)))))) ?_
 · exact fun _ _ => trivial
 · exact fun Lk ak ww hL hdd haa hF hK hV hX Nk Qk hN => wnt rfl (wp_move rfl (ev (hF.g rfl s0)) (hN _ _ hK rfl trivial))
 · exact fun Lk ak ww hL hdd haa hF hK hV hX Nk Qk hN => wnt rfl (wp_neg rfl (ev (hV 0 _ rfl (hdd 0 rfl))) (by omega) (hN _ _ hK rfl trivial))
 · exact fun Lk ak ww hL hdd haa hF hK hV hX Nk Qk hN => wnt rfl (wp_move rfl (ev (hF.g rfl s1)) (hN _ _ hK rfl trivial))
 · intro Lk ak ww hL hdd haa hF hK hV hX Nk Qk hN; refine wnt rfl ?_
   simp [go_sem, (show ak.tmps[6]?.getD undef = _ from hV 1 _ rfl (hdd 1 rfl)), (show ak.tmps[7]?.getD undef = _ from hV 2 _ rfl (hdd 2 rfl))]
   refine (floorDiv_c (-n) d ww (by omega) (by omega) hd hd2).mono ?_
   rintro x wx ⟨rfl, n, rfl⟩
   have hb : Below ww.heap.size ww (ww.drewN n) := below_drewN (Below.refl _ _) n
   exact (hN _ _ (hK.call hb) rfl trivial)
 · exact fun Lk ak ww hL hdd haa hF hK hV hX Nk Qk hN => wnt rfl (wp_neg rfl (ev (hV 3 _ rfl (hdd 3 rfl))) (by omega) (hN _ _ hK rfl trivial))
 · exact fun Lk ak ww hL hdd haa hF hK hV hX Nk Qk hN => wnt rfl (wp_assign rfl (ev (hV 4 _ rfl (hdd 4 rfl))) (hN _ _ hK rfl trivial))
 intro L a3 w4 hL hF hK hV hX
 replace hz := hF.size.trans hz
 replace hdf := hF.defers.trans hdf
 have s4 : a3.tmps[4]?.getD undef = .int .i64 (-((-n) / d)) := hV 5 _ rfl
 replace hZ := Nat.le_trans hZ hK.size
 replace hB := hK.below0 hB
 clear hF hK hV hL hX s0 s1
 refine th_n ?_
 refine wp_ret ?_
 refine bodyPost_ret (v := .int .i64 (-((-n) / d))) (by simp [results, Tryz.results162, go_sem, s4]) hdf ?_
 exact ⟨rfl, hB⟩
set_option maxRecDepth 100000 in
set_option maxHeartbeats 3000000 in
theorem iRatFloor_c (r : Ratio) (w : World) (hr : r.In) :
    Calls Tryz.prog 214 #[ratioV r] w fun x w' => x = .returned (.int .i64 (ratFloor r)) ∧ Below w.heap.size w w' := by
 refine calls_v Tryz.func214 rfl (n := 11) Tryz.ntmps214 (by simp) ?_
 intro a0 hz hdf ha
 have s0 : a0.tmps[0]?.getD undef = ratioV r := ha 0 _ rfl
 clear ha
 have hB := Below.refl w.heap.size w
 have hZ := Nat.le_refl w.heap.size
 refine wp_seq ?_
 refine wp_entry [1, 2] [.pointer (some ⟨w.heap.size, 0, none⟩), .int .i64 0] [some (.cells [.int .i64 r.n, .int .i64 r.d].toArray 52), none] [0, 1] [1, 2] [0, 1] (by kernel_rfl) (by rw [hz]; decide) (ec ?_ (ec ?_ .nil)) ?_
 · intro a w' hF hs N Q hN; simp [go_sem, hF.g rfl s0]; rw [hs]; exact hN
 · intro a w' hF hs N Q hN; simp [go_sem]; exact hN
 intro a1 w2 hF hV hb hO
 replace hz := hF.size.trans hz
 replace hdf := hF.defers.trans hdf
 have s1 : a1.tmps[1]?.getD undef = .pointer (some ⟨w.heap.size, 0, none⟩) := hV 0 (by decide)
 have b3 : HasT w2 w.heap.size 52 [.int .i64 r.n, .int .i64 r.d] := hO 0 _ rfl
 have hG := b3.lt
 replace hB := below_tr hB hb
 have zw2 := Nat.le_trans hZ hb.size
 replace hZ := Nat.le_refl w2.heap.size
 clear hF hV hb hO s0
 refine th_n ?_
 refine wp_seq ?_
 refine wp_seq ?_
 refine wp_regJ (by kernel_rfl) [3, 4, 5] [some (ratioV r), some (.bool (ratioOk r)), some (.bool (!(ratioOk r)))] ((List.range 3).map List.range) [3, 4, 5] [0, 1, 2] [] (fun _ _ _ => True) (by kernel_rfl) (by rw [hz]; decide) ?_ (ec ?_ (ec ?_ (ec ?_ .nil))) ?_
 · exact fun _ _ => trivial
 · intro Lk ak ww hL hdd haa hF hK hV hX Nk Qk hN; refine wnt rfl ?_
   simp [go_sem, hF.g rfl s1, (b3.kp hK (by simp)).cell]
   exact (hN _ _ hK rfl trivial)
 · intro Lk ak ww hL hdd haa hF hK hV hX Nk Qk hN; refine wnt rfl ?_
   simp [go_sem, (show ak.tmps[3]?.getD undef = _ from hV 0 _ rfl (hdd 0 rfl))]
   refine (iRatioOk_c r ww hr).mono ?_
   rintro x wx ⟨rfl, hb⟩
   exact (hN _ _ (hK.call hb) rfl trivial)
 · exact fun Lk ak ww hL hdd haa hF hK hV hX Nk Qk hN => wnt rfl (wp_not rfl (ev (hV 1 _ rfl (hdd 1 rfl))) (hN _ _ hK rfl trivial))
 intro L a4 w5 hL hF hK hV hX
 replace hz := hF.size.trans hz
 replace hdf := hF.defers.trans hdf
 replace s1 := hF.g rfl s1
 have s5 : a4.tmps[5]?.getD undef = .bool (!(ratioOk r)) := hV 2 _ rfl
 replace b3 := b3.kp hK (by simp)
 replace hZ := Nat.le_trans hZ hK.size
 replace hB := hK.below0 hB
 clear hF hK hV hL hX
 refine th_n ?_
 rcases Bool.eq_false_or_eq_true (!(ratioOk r)) with q6 | q6
 · skip
   refine wp_cond_true (ev (vb s5 q6)) ?_
   refine wp_seq ?_
   refine wp_regJ (by kernel_rfl) [2] [some (.int .i64 0)] ((List.range 1).map List.range) [2] [0] [] (fun _ _ _ => True) (by kernel_rfl) (by rw [hz]; decide) ?_ (ec ?_ .nil) ?_
   · exact fun _ _ => trivial
   · exact fun Lk ak ww hL hdd haa hF hK hV hX Nk Qk hN => wnt rfl (wp_assign rfl rfl (hN _ _ hK rfl trivial))
   intro L a7 w8 hL hF hK hV hX
   replace hz := hF.size.trans hz
   replace hdf := hF.defers.trans hdf
   have s2 : a7.tmps[2]?.getD undef = .int .i64 0 := hV 0 _ rfl
   replace hZ := Nat.le_trans hZ hK.size
   replace hB := hK.below0 hB
   clear hF hK hV hL hX s1 s5 b3
   refine th_n ?_
   refine wp_ret ?_
   refine th_r ?_
   refine bodyPost_ret (v := .int .i64 0) (by simp [results, Tryz.results214, go_sem, s2]) hdf ?_
   exact ⟨by rw [show ratFloor r = 0 by unfold ratFloor; rw [not_t q6, if_neg (by simp)]], hB⟩
 · skip
   obtain ⟨k1, k2, k3, k4⟩ := rok_bd (not_f q6)
   refine wp_cond_false (ev (vb s5 q6)) ?_
   refine wp_skip ?_
   refine th_n ?_
   refine wp_seq ?_
   refine wp_regJ (by kernel_rfl) [6, 7, 8, 9, 10, 2] [some (.pointer (some ⟨w.heap.size, 0, none⟩)), some (.int .i64 r.n), some (.pointer (some ⟨w.heap.size, 1, none⟩)), some (.int .i64 r.d), some (.int .i64 (r.n / r.d)), some (.int .i64 (r.n / r.d))] ((List.range 6).map List.range) [6, 7, 8, 9, 10, 2] [0, 1, 2, 3, 4, 5] [] (fun _ _ _ => True) (by kernel_rfl) (by rw [hz]; decide) ?_ (ec ?_ (ec ?_ (ec ?_ (ec ?_ (ec ?_ (ec ?_ .nil)))))) ?_
   · exact fun _ _ => trivial
   · intro Lk ak ww hL hdd haa hF hK hV hX Nk Qk hN; refine wnt rfl ?_
     simp [go_sem, hF.g rfl s1]
     exact (hN _ _ hK rfl trivial)
   · intro Lk ak ww hL hdd haa hF hK hV hX Nk Qk hN; refine wnt rfl ?_
     simp [go_sem, (show ak.tmps[6]?.getD undef = _ from hV 0 _ rfl (hdd 0 rfl)), (b3.kp hK (by simp)).cell]
     exact (hN _ _ hK rfl trivial)
   · intro Lk ak ww hL hdd haa hF hK hV hX Nk Qk hN; refine wnt rfl ?_
     simp [go_sem, hF.g rfl s1]
     exact (hN _ _ hK rfl trivial)
   · intro Lk ak ww hL hdd haa hF hK hV hX Nk Qk hN; refine wnt rfl ?_
     simp [go_sem, (show ak.tmps[8]?.getD undef = _ from hV 2 _ rfl (hdd 2 rfl)), (b3.kp hK (by simp)).cell]
     exact (hN _ _ hK rfl trivial)
   · intro Lk ak ww hL hdd haa hF hK hV hX Nk Qk hN; refine wnt rfl ?_
     simp [go_sem, (show ak.tmps[7]?.getD undef = _ from hV 1 _ rfl (hdd 1 rfl)), (show ak.tmps[9]?.getD undef = _ from hV 3 _ rfl (hdd 3 rfl))]
     refine (floorDiv_c r.n r.d ww k1 k2 k3 k4).mono ?_
     rintro x wx ⟨rfl, n, rfl⟩
     have hb : Below ww.heap.size ww (ww.drewN n) := below_drewN (Below.refl _ _) n
     exact (hN _ _ (hK.call hb) rfl trivial)
   · exact fun Lk ak ww hL hdd haa hF hK hV hX Nk Qk hN => wnt rfl (wp_assign rfl (ev (hV 4 _ rfl (hdd 4 rfl))) (hN _ _ hK rfl trivial))
   intro L a9 w10 hL hF hK hV hX
   replace hz := hF.size.trans hz
   replace hdf := hF.defers.trans hdf
   have s2 : a9.tmps[2]?.getD undef = .int .i64 (r.n / r.d) := hV 5 _ rfl
   replace hZ := Nat.le_trans hZ hK.size
   replace hB := hK.below0 hB
   clear hF hK hV hL hX s1 s5 b3
   refine th_n ?_
   refine wp_ret ?_
   refine bodyPost_ret (v := .int .i64 (r.n / r.d)) (by simp [results, Tryz.results214, go_sem, s2]) hdf ?_
   exact ⟨by rw [show ratFloor r = r.n / r.d by unfold ratFloor; rw [not_f q6, if_pos (by simp)]], hB⟩
set_option maxRecDepth 100000 in
set_option maxHeartbeats 3000000 in
theorem iRatCeil_c (r : Ratio) (w : World) (hr : r.In) :
    Calls Tryz.prog 213 #[ratioV r] w fun x w' => x = .returned (.int .i64 (ratCeil r)) ∧ Below w.heap.size w w' := by
 refine calls_v Tryz.func213 rfl (n := 11) Tryz.ntmps213 (by simp) ?_
 intro a0 hz hdf ha
 have s0 : a0.tmps[0]?.getD undef = ratioV r := ha 0 _ rfl
 clear ha
 have hB := Below.refl w.heap.size w
 have hZ := Nat.le_refl w.heap.size
 refine wp_seq ?_
 refine wp_entry [1, 2] [.pointer (some ⟨w.heap.size, 0, none⟩), .int .i64 0] [some (.cells [.int .i64 r.n, .int .i64 r.d].toArray 52), none] [0, 1] [1, 2] [0, 1] (by kernel_rfl) (by rw [hz]; decide) (ec ?_ (ec ?_ .nil)) ?_
 · intro a w' hF hs N Q hN; simp [go_sem, hF.g rfl s0]; rw [hs]; exact hN
 · intro a w' hF hs N Q hN; simp [go_sem]; exact hN
 intro a1 w2 hF hV hb hO
 replace hz := hF.size.trans hz
 replace hdf := hF.defers.trans hdf
 have s1 : a1.tmps[1]?.getD undef = .pointer (some ⟨w.heap.size, 0, none⟩) := hV 0 (by decide)
 have b3 : HasT w2 w.heap.size 52 [.int .i64 r.n, .int .i64 r.d] := hO 0 _ rfl
 have hG := b3.lt
 replace hB := below_tr hB hb
 have zw2 := Nat.le_trans hZ hb.size
 replace hZ := Nat.le_refl w2.heap.size
 clear hF hV hb hO s0
 refine th_n ?_
 refine wp_seq ?_
 refine wp_seq ?_
 refine wp_regJ (by kernel_rfl) [3, 4, 5] [some (ratioV r), some (.bool (ratioOk r)), some (.bool (!(ratioOk r)))] ((List.range 3).map List.range) [3, 4, 5] [0, 1, 2] [] (fun _ _ _ => True) (by kernel_rfl) (by rw [hz]; decide) ?_ (ec ?_ (ec ?_ (ec ?_ .nil))) ?_
 · exact fun _ _ => trivial
 · intro Lk ak ww hL hdd haa hF hK hV hX Nk Qk hN; refine wnt rfl ?_
   simp [go_sem, hF.g rfl s1, (b3.kp hK (by simp)).cell]
   exact (hN _ _ hK rfl trivial)
 · intro Lk ak ww hL hdd haa hF hK hV hX Nk Qk hN; refine wnt rfl ?_
   simp [go_sem, (show ak.tmps[3]?.getD undef = _ from hV 0 _ rfl (hdd 0 rfl))]
   refine (iRatioOk_c r ww hr).mono ?_
   rintro x wx ⟨rfl, hb⟩
   exact (hN _ _ (hK.call hb) rfl trivial)
 · exact fun Lk ak ww hL hdd haa hF hK hV hX Nk Qk hN => wnt rfl (wp_not rfl (ev (hV 1 _ rfl (hdd 1 rfl))) (hN _ _ hK rfl trivial))
 intro L a4 w5 hL hF hK hV hX
 replace hz := hF.size.trans hz
 replace hdf := hF.defers.trans hdf
 replace s1 := hF.g rfl s1
 have s5 : a4.tmps[5]?.getD undef = .bool (!(ratioOk r)) := hV 2 _ rfl
 replace b3 := b3.kp hK (by simp)
 replace hZ := Nat.le_trans hZ hK.size
 replace hB := hK.below0 hB
 clear hF hK hV hL hX
 refine th_n ?_
 rcases Bool.eq_false_or_eq_true (!(ratioOk r)) with q6 | q6
 · skip
   refine wp_cond_true (ev (vb s5 q6)) ?_
   refine wp_seq ?_
   refine wp_regJ (by kernel_rfl) [2] [some (.int .i64 0)] ((List.range 1).map List.range) [2] [0] [] (fun _ _ _ => True) (by kernel_rfl) (by rw [hz]; decide) ?_ (ec ?_ .nil) ?_
   · exact fun _ _ => trivial
   · exact fun Lk ak ww hL hdd haa hF hK hV hX Nk Qk hN => wnt rfl (wp_assign rfl rfl (hN _ _ hK rfl trivial))
   intro L a7 w8 hL hF hK hV hX
   replace hz := hF.size.trans hz
   replace hdf := hF.defers.trans hdf
   have s2 : a7.tmps[2]?.getD undef = .int .i64 0 := hV 0 _ rfl
   replace hZ := Nat.le_trans hZ hK.size
   replace hB := hK.below0 hB
   clear hF hK hV hL hX s1 s5 b3
   refine th_n ?_
   refine wp_ret ?_
   refine th_r ?_
   refine bodyPost_ret (v := .int .i64 0) (by simp [results, Tryz.results213, go_sem, s2]) hdf ?_
   exact ⟨by rw [show ratCeil r = 0 by unfold ratCeil; rw [not_t q6, if_neg (by simp)]], hB⟩
 · skip
   obtain ⟨k1, k2, k3, k4⟩ := rok_bd (not_f q6)
   have hdv := div_bd (n := -r.n) (d := r.d) (by omega) (by omega) k3
   refine wp_cond_false (ev (vb s5 q6)) ?_
   refine wp_skip ?_
   refine th_n ?_
   refine wp_seq ?_
   refine wp_regJ (by kernel_rfl) [6, 7, 8, 9, 10, 2] [some (.pointer (some ⟨w.heap.size, 0, none⟩)), some (.int .i64 r.n), some (.pointer (some ⟨w.heap.size, 1, none⟩)), some (.int .i64 r.d), some (.int .i64 (-(-r.n / r.d))), some (.int .i64 (-(-r.n / r.d)))] ((List.range 6).map List.range) [6, 7, 8, 9, 10, 2] [0, 1, 2, 3, 4, 5] [] (fun _ _ _ => True) (by kernel_rfl) (by rw [hz]; decide) ?_ (ec ?_ (ec ?_ (ec ?_ (ec ?_ (ec ?_ (ec ?_ .nil)))))) ?_
   · exact fun _ _ => trivial
   · intro Lk ak ww hL hdd haa hF hK hV hX Nk Qk hN; refine wnt rfl ?_
     simp [go_sem, hF.g rfl s1]
     exact (hN _ _ hK rfl trivial)
   · intro Lk ak ww hL hdd haa hF hK hV hX Nk Qk hN; refine wnt rfl ?_
     simp [go_sem, (show ak.tmps[6]?.getD undef = _ from hV 0 _ rfl (hdd 0 rfl)), (b3.kp hK (by simp)).cell]
     exact (hN _ _ hK rfl trivial)
   · intro Lk ak ww hL hdd haa hF hK hV hX Nk Qk hN; refine wnt rfl ?_
     simp [go_sem, hF.g rfl s1]
     exact (hN _ _ hK rfl trivial)
   · intro Lk ak ww hL hdd haa hF hK hV hX Nk Qk hN; refine wnt rfl ?_
     simp [go_sem, (show ak.tmps[8]?.getD undef = _ from hV 2 _ rfl (hdd 2 rfl)), (b3.kp hK (by simp)).cell]
     exact (hN _ _ hK rfl trivial)
   · intro Lk ak ww hL hdd haa hF hK hV hX Nk Qk hN; refine wnt rfl ?_
     simp [go_sem, (show ak.tmps[7]?.getD undef = _ from hV 1 _ rfl (hdd 1 rfl)), (show ak.tmps[9]?.getD undef = _ from hV 3 _ rfl (hdd 3 rfl))]
     refine (ceilDiv_c r.n r.d ww k1 k2 k3 k4).mono ?_
     rintro x wx ⟨rfl, hb⟩
     exact (hN _ _ (hK.call hb) rfl trivial)
   · exact fun Lk ak ww hL hdd haa hF hK hV hX Nk Qk hN => wnt rfl (wp_assign rfl (ev (hV 4 _ rfl (hdd 4 rfl))) (hN _ _ hK rfl trivial))
   intro L a9 w10 hL hF hK hV hX
   replace hz := hF.size.trans hz
   replace hdf := hF.defers.trans hdf
   have s2 : a9.tmps[2]?.getD undef = .int .i64 (-(-r.n / r.d)) := hV 5 _ rfl
   replace hZ := Nat.le_trans hZ hK.size
   replace hB := hK.below0 hB
   clear hF hK hV hL hX s1 s5 b3
   refine th_n ?_
   refine wp_ret ?_
   refine bodyPost_ret (v := .int .i64 (-(-r.n / r.d))) (by simp [results, Tryz.results213, go_sem, s2]) hdf ?_
   exact ⟨by rw [show ratCeil r = -(-r.n / r.d) by unfold ratCeil; rw [not_f q6, if_pos (by simp)]], hB⟩
set_option maxRecDepth 100000 in
set_option maxHeartbeats 3000000 in
theorem sRatFloor_c (r : Ratio) (w : World) (hr : r.In) :
    Calls Tryz.prog 178 #[ratioV r] w fun x w' => x = .returned (.int .i64 (ratFloor r)) ∧ Below w.heap.size w w' := by
 refine calls_v Tryz.func178 rfl (n := 11) Tryz.ntmps178 (by simp) ?_
 intro a0 hz hdf ha
 have s0 : a0.tmps[0]?.getD undef = ratioV r := ha 0 _ rfl
 clear ha
 have hB := Below.refl w.heap.size w
 have hZ := Nat.le_refl w.heap.size
 refine wp_seq ?_
 refine wp_entry [1, 2] [.pointer (some ⟨w.heap.size, 0, none⟩), .int .i64 0] [some (.cells [.int .i64 r.n, .int .i64 r.d].toArray 52), none] [0, 1] [1, 2] [0, 1] (by kernel_rfl) (by rw [hz]; decide) (ec ?_ (ec ?_ .nil)) ?_
 · intro a w' hF hs N Q hN; simp [go_sem, hF.g rfl s0]; rw [hs]; exact hN
 · intro a w' hF hs N Q hN; simp [go_sem]; exact hN
 intro a1 w2 hF hV hb hO
 replace hz := hF.size.trans hz
 replace hdf := hF.defers.trans hdf
 have s1 : a1.tmps[1]?.getD undef = .pointer (some ⟨w.heap.size, 0, none⟩) := hV 0 (by decide)
 have b3 : HasT w2 w.heap.size 52 [.int .i64 r.n, .int .i64 r.d] := hO 0 _ rfl
 have hG := b3.lt
 replace hB := below_tr hB hb
 have zw2 := Nat.le_trans hZ hb.size
 replace hZ := Nat.le_refl w2.heap.size
 clear hF hV hb hO s0
 refine th_n ?_
 refine wp_seq ?_
 refine wp_seq ?_
 refine wp_regJ (by kernel_rfl) [3, 4, 5] [some (ratioV r), some (.bool (ratioOk r)), some (.bool (!(ratioOk r)))] ((List.range 3).map List.range) [3, 4, 5] [0, 1, 2] [] (fun _ _ _ => True) (by kernel_rfl) (by rw [hz]; decide) ?_ (ec ?_ (ec ?_ (ec ?_ .nil))) ?_
 · exact fun _ _ => trivial
 · intro Lk ak ww hL hdd haa hF hK hV hX Nk Qk hN; refine wnt rfl ?_
   simp [go_sem, hF.g rfl s1, (b3.kp hK (by simp)).cell]
   exact (hN _ _ hK rfl trivial)
 · intro Lk ak ww hL hdd haa hF hK hV hX Nk Qk hN; refine wnt rfl ?_
   simp [go_sem, (show ak.tmps[3]?.getD undef = _ from hV 0 _ rfl (hdd 0 rfl))]
   refine (sRatioOk_c r ww hr).mono ?_
   rintro x wx ⟨rfl, hb⟩
   exact (hN _ _ (hK.call hb) rfl trivial)
 · exact fun Lk ak ww hL hdd haa hF hK hV hX Nk Qk hN => wnt rfl (wp_not rfl (ev (hV 1 _ rfl (hdd 1 rfl))) (hN _ _ hK rfl trivial))
 intro L a4 w5 hL hF hK hV hX
 replace hz := hF.size.trans hz
 replace hdf := hF.defers.trans hdf
 replace s1 := hF.g rfl s1
 have s5 : a4.tmps[5]?.getD undef = .bool (!(ratioOk r)) := hV 2 _ rfl
 replace b3 := b3.kp hK (by simp)
 replace hZ := Nat.le_trans hZ hK.size
 replace hB := hK.below0 hB
 clear hF hK hV hL hX
 refine th_n ?_
 rcases Bool.eq_false_or_eq_true (!(ratioOk r)) with q6 | q6
 · skip
   refine wp_cond_true (ev (vb s5 q6)) ?_
   refine wp_seq ?_
   refine wp_regJ (by kernel_rfl) [2] [some (.int .i64 0)] ((List.range 1).map List.range) [2] [0] [] (fun _ _ _ => True) (by kernel_rfl) (by rw [hz]; decide) ?_ (ec ?_ .nil) ?_
   · exact fun _ _ => trivial
   · exact fun Lk ak ww hL hdd haa hF hK hV hX Nk Qk hN => wnt rfl (wp_assign rfl rfl (hN _ _ hK rfl trivial))
   intro L a7 w8 hL hF hK hV hX
   replace hz := hF.size.trans hz
   replace hdf := hF.defers.trans hdf
   have s2 : a7.tmps[2]?.getD undef = .int .i64 0 := hV 0 _ rfl
   replace hZ := Nat.le_trans hZ hK.size
   replace hB := hK.below0 hB
   clear hF hK hV hL hX s1 s5 b3
   refine th_n ?_
   refine wp_ret ?_
   refine th_r ?_
   refine bodyPost_ret (v := .int .i64 0) (by simp [results, Tryz.results178, go_sem, s2]) hdf ?_
   exact ⟨by rw [show ratFloor r = 0 by unfold ratFloor; rw [not_t q6, if_neg (by simp)]], hB⟩
 · skip
   obtain ⟨k1, k2, k3, k4⟩ := rok_bd (not_f q6)
   refine wp_cond_false (ev (vb s5 q6)) ?_
   refine wp_skip ?_
   refine th_n ?_
   refine wp_seq ?_
   refine wp_regJ (by kernel_rfl) [6, 7, 8, 9, 10, 2] [some (.pointer (some ⟨w.heap.size, 0, none⟩)), some (.int .i64 r.n), some (.pointer (some ⟨w.heap.size, 1, none⟩)), some (.int .i64 r.d), some (.int .i64 (r.n / r.d)), some (.int .i64 (r.n / r.d))] ((List.range 6).map List.range) [6, 7, 8, 9, 10, 2] [0, 1, 2, 3, 4, 5] [] (fun _ _ _ => True) (by kernel_rfl) (by rw [hz]; decide) ?_ (ec ?_ (ec ?_ (ec ?_ (ec ?_ (ec ?_ (ec ?_ .nil)))))) ?_
   · exact fun _ _ => trivial
   · intro Lk ak ww hL hdd haa hF hK hV hX Nk Qk hN; refine wnt rfl ?_
     simp [go_sem, hF.g rfl s1]
     exact (hN _ _ hK rfl trivial)
   · intro Lk ak ww hL hdd haa hF hK hV hX Nk Qk hN; refine wnt rfl ?_
     simp [go_sem, (show ak.tmps[6]?.getD undef = _ from hV 0 _ rfl (hdd 0 rfl)), (b3.kp hK (by simp)).cell]
     exact (hN _ _ hK rfl trivial)
   · intro Lk ak ww hL hdd haa hF hK hV hX Nk Qk hN; refine wnt rfl ?_
     simp [go_sem, hF.g rfl s1]
     exact (hN _ _ hK rfl trivial)
   · intro Lk ak ww hL hdd haa hF hK hV hX Nk Qk hN; refine wnt rfl ?_
     simp [go_sem, (show ak.tmps[8]?.getD undef = _ from hV 2 _ rfl (hdd 2 rfl)), (b3.kp hK (by simp)).cell]
     exact (hN _ _ hK rfl trivial)
   · intro Lk ak ww hL hdd haa hF hK hV hX Nk Qk hN; refine wnt rfl ?_
     simp [go_sem, (show ak.tmps[7]?.getD undef = _ from hV 1 _ rfl (hdd 1 rfl)), (show ak.tmps[9]?.getD undef = _ from hV 3 _ rfl (hdd 3 rfl))]
     refine (l02Floor_c r.n r.d ww k1 k2 k3 k4).mono ?_
     rintro x wx ⟨rfl, n, rfl⟩
     have hb : Below ww.heap.size ww (ww.drewN n) := below_drewN (Below.refl _ _) n
     exact (hN _ _ (hK.call hb) rfl trivial)
   · exact fun Lk ak ww hL hdd haa hF hK hV hX Nk Qk hN => wnt rfl (wp_assign rfl (ev (hV 4 _ rfl (hdd 4 rfl))) (hN _ _ hK rfl trivial))
   intro L a9 w10 hL hF hK hV hX
   replace hz := hF.size.trans hz
   replace hdf := hF.defers.trans hdf
   have s2 : a9.tmps[2]?.getD undef = .int .i64 (r.n / r.d) := hV 5 _ rfl
   replace hZ := Nat.le_trans hZ hK.size
   replace hB := hK.below0 hB
   clear hF hK hV hL hX s1 s5 b3
   refine th_n ?_
   refine wp_ret ?_
   refine bodyPost_ret (v := .int .i64 (r.n / r.d)) (by simp [results, Tryz.results178, go_sem, s2]) hdf ?_
   exact ⟨by rw [show ratFloor r = r.n / r.d by unfold ratFloor; rw [not_f q6, if_pos (by simp)]], hB⟩
set_option maxRecDepth 100000 in
set_option maxHeartbeats 3000000 in
theorem sRatCeil_c (r : Ratio) (w : World) (hr : r.In) :
    Calls Tryz.prog 177 #[ratioV r] w fun x w' => x = .returned (.int .i64 (ratCeil r)) ∧ Below w.heap.size w w' := by
 refine calls_v Tryz.func177 rfl (n := 13) Tryz.ntmps177 (by simp) ?_
 intro a0 hz hdf ha
 have s0 : a0.tmps[0]?.getD undef = ratioV r := ha 0 _ rfl
 clear ha
 have hB := Below.refl w.heap.size w
 have hZ := Nat.le_refl w.heap.size
 refine wp_seq ?_
 refine wp_entry [1, 2] [.pointer (some ⟨w.heap.size, 0, none⟩), .int .i64 0] [some (.cells [.int .i64 r.n, .int .i64 r.d].toArray 52), none] [0, 1] [1, 2] [0, 1] (by kernel_rfl) (by rw [hz]; decide) (ec ?_ (ec ?_ .nil)) ?_
 · intro a w' hF hs N Q hN; simp [go_sem, hF.g rfl s0]; rw [hs]; exact hN
 · intro a w' hF hs N Q hN; simp [go_sem]; exact hN
 intro a1 w2 hF hV hb hO
 replace hz := hF.size.trans hz
 replace hdf := hF.defers.trans hdf
 have s1 : a1.tmps[1]?.getD undef = .pointer (some ⟨w.heap.size, 0, none⟩) := hV 0 (by decide)
 have b3 : HasT w2 w.heap.size 52 [.int .i64 r.n, .int .i64 r.d] := hO 0 _ rfl
 have hG := b3.lt
 replace hB := below_tr hB hb
 have zw2 := Nat.le_trans hZ hb.size
 replace hZ := Nat.le_refl w2.heap.size
 clear hF hV hb hO s0
 refine th_n ?_
 refine wp_seq ?_
 refine wp_seq ?_
 refine wp_regJ (by kernel_rfl) [3, 4, 5] [some (ratioV r), some (.bool (ratioOk r)), some (.bool (!(ratioOk r)))] ((List.range 3).map List.range) [3, 4, 5] [0, 1, 2] [] (fun _ _ _ => True) (by kernel_rfl) (by rw [hz]; decide) ?_ (ec ?_ (ec ?_ (ec ?_ .nil))) ?_
 · exact fun _ _ => trivial
 · intro Lk ak ww hL hdd haa hF hK hV hX Nk Qk hN; refine wnt rfl ?_
   simp [go_sem, hF.g rfl s1, (b3.kp hK (by simp)).cell]
   exact (hN _ _ hK rfl trivial)
 · intro Lk ak ww hL hdd haa hF hK hV hX Nk Qk hN; refine wnt rfl ?_
   simp [go_sem, (show ak.tmps[3]?.getD undef = _ from hV 0 _ rfl (hdd 0 rfl))]
   refine (sRatioOk_c r ww hr).mono ?_
   rintro x wx ⟨rfl, hb⟩
   exact (hN _ _ (hK.call hb) rfl trivial)
 · exact fun Lk ak ww hL hdd haa hF hK hV hX Nk Qk hN => wnt rfl (wp_not rfl (ev (hV 1 _ rfl (hdd 1 rfl))) (hN _ _ hK rfl trivial))
 intro L a4 w5 hL hF hK hV hX
 replace hz := hF.size.trans hz
 replace hdf := hF.defers.trans hdf
 replace s1 := hF.g rfl s1
 have s5 : a4.tmps[5]?.getD undef = .bool (!(ratioOk r)) := hV 2 _ rfl
 replace b3 := b3.kp hK (by simp)
 replace hZ := Nat.le_trans hZ hK.size
 replace hB := hK.below0 hB
 clear hF hK hV hL hX
 refine th_n ?_
 rcases Bool.eq_false_or_eq_true (!(ratioOk r)) with q6 | q6
 · skip
   refine wp_cond_true (ev (vb s5 q6)) ?_
   refine wp_seq ?_
   refine wp_regJ (by kernel_rfl) [2] [some (.int .i64 0)] ((List.range 1).map List.range) [2] [0] [] (fun _ _ _ => True) (by kernel_rfl) (by rw [hz]; decide) ?_ (ec ?_ .nil) ?_
   · exact fun _ _ => trivial
   · exact fun Lk ak ww hL hdd haa hF hK hV hX Nk Qk hN => wnt rfl (wp_assign rfl rfl (hN _ _ hK rfl trivial))
   intro L a7 w8 hL hF hK hV hX
   replace hz := hF.size.trans hz
   replace hdf := hF.defers.trans hdf
   have s2 : a7.tmps[2]?.getD undef = .int .i64 0 := hV 0 _ rfl
   replace hZ := Nat.le_trans hZ hK.size
   replace hB := hK.below0 hB
   clear hF hK hV hL hX s1 s5 b3
   refine th_n ?_
   refine wp_ret ?_
   refine th_r ?_
   refine bodyPost_ret (v := .int .i64 0) (by simp [results, Tryz.results177, go_sem, s2]) hdf ?_
   exact ⟨by rw [show ratCeil r = 0 by unfold ratCeil; rw [not_t q6, if_neg (by simp)]], hB⟩
 · skip
   obtain ⟨k1, k2, k3, k4⟩ := rok_bd (not_f q6)
   have hdv := div_bd (n := -r.n) (d := r.d) (by omega) (by omega) k3
   refine wp_cond_false (ev (vb s5 q6)) ?_
   refine wp_skip ?_
   refine th_n ?_
   refine wp_seq ?_
   refine wp_regJ (by kernel_rfl) [6, 7, 8, 9, 10, 11, 12, 2] [some (.pointer (some ⟨w.heap.size, 0, none⟩)), some (.int .i64 r.n), some (.int .i64 (-r.n)), some (.pointer (some ⟨w.heap.size, 1, none⟩)), some (.int .i64 r.d), some (.int .i64 ((-r.n) / r.d)), some (.int .i64 (-((-r.n) / r.d))), some (.int .i64 (-((-r.n) / r.d)))] ((List.range 8).map List.range) [6, 7, 8, 9, 10, 11, 12, 2] [0, 1, 2, 3, 4, 5, 6, 7] [] (fun _ _ _ => True) (by kernel_rfl) (by rw [hz]; decide) ?_ (ec ?_ (ec ?_ (ec ?_ (ec ?_ (ec ?_ (ec ?_ (ec ?_ (ec ?_ .nil)))))))) ?_
   · exact fun _ _ => trivial
   · intro Lk ak ww hL hdd haa hF hK hV hX Nk Qk hN; refine wnt rfl ?_
     simp [go_sem, hF.g rfl s1]
     exact (hN _ _ hK rfl trivial)
   · intro Lk ak ww hL hdd haa hF hK hV hX Nk Qk hN; refine wnt rfl ?_
     simp [go_sem, (show ak.tmps[6]?.getD undef = _ from hV 0 _ rfl (hdd 0 rfl)), (b3.kp hK (by simp)).cell]
     exact (hN _ _ hK rfl trivial)
   · exact fun Lk ak ww hL hdd haa hF hK hV hX Nk Qk hN => wnt rfl (wp_neg rfl (ev (hV 1 _ rfl (hdd 1 rfl))) (by omega) (hN _ _ hK rfl trivial))
   · intro Lk ak ww hL hdd haa hF hK hV hX Nk Qk hN; refine wnt rfl ?_
     simp [go_sem, hF.g rfl s1]
     exact (hN _ _ hK rfl trivial)
   · intro Lk ak ww hL hdd haa hF hK hV hX Nk Qk hN; refine wnt rfl ?_
     simp [go_sem, (show ak.tmps[9]?.getD undef = _ from hV 3 _ rfl (hdd 3 rfl)), (b3.kp hK (by simp)).cell]
     exact (hN _ _ hK rfl trivial)
   · intro Lk ak ww hL hdd haa hF hK hV hX Nk Qk hN; refine wnt rfl ?_
     simp [go_sem, (show ak.tmps[8]?.getD undef = _ from hV 2 _ rfl (hdd 2 rfl)), (show ak.tmps[10]?.getD undef = _ from hV 4 _ rfl (hdd 4 rfl))]
     refine (l02Floor_c (-r.n) r.d ww (by omega) (by omega) k3 k4).mono ?_
     rintro x wx ⟨rfl, n, rfl⟩
     have hb : Below ww.heap.size ww (ww.drewN n) := below_drewN (Below.refl _ _) n
     exact (hN _ _ (hK.call hb) rfl trivial)
   · exact fun Lk ak ww hL hdd haa hF hK hV hX Nk Qk hN => wnt rfl (wp_neg rfl (ev (hV 5 _ rfl (hdd 5 rfl))) (by omega) (hN _ _ hK rfl trivial))
   · exact fun Lk ak ww hL hdd haa hF hK hV hX Nk Qk hN => wnt rfl (wp_assign rfl (ev (hV 6 _ rfl (hdd 6 rfl))) (hN _ _ hK rfl trivial))
   intro L a9 w10 hL hF hK hV hX
   replace hz := hF.size.trans hz
   replace hdf := hF.defers.trans hdf
   have s2 : a9.tmps[2]?.getD undef = .int .i64 (-((-r.n) / r.d)) := hV 7 _ rfl
   replace hZ := Nat.le_trans hZ hK.size
   replace hB := hK.below0 hB
   clear hF hK hV hL hX s1 s5 b3
   refine th_n ?_
   refine wp_ret ?_
   refine bodyPost_ret (v := .int .i64 (-((-r.n) / r.d))) (by simp [results, Tryz.results177, go_sem, s2]) hdf ?_
   exact ⟨by rw [show ratCeil r = -((-r.n) / r.d) by unfold ratCeil; rw [not_f q6, if_pos (by simp)]], hB⟩
set_option maxRecDepth 100000 in
set_option maxHeartbeats 3000000 in
theorem sClamp_c (n lo hi : Int) (w : World) :
    Calls Tryz.prog 174 #[.int .i64 n, .int .i64 lo, .int .i64 hi] w fun x w' => x = .returned (.int .i64 (max lo (min n hi))) ∧ Below w.heap.size w w' := by
 refine calls_v Tryz.func174 rfl (n := 12) Tryz.ntmps174 (by simp) ?_
 intro a0 hz hdf ha
 have s0 : a0.tmps[0]?.getD undef = .int .i64 n := ha 0 _ rfl
 have s1 : a0.tmps[1]?.getD undef = .int .i64 lo := ha 1 _ rfl
 have s2 : a0.tmps[2]?.getD undef = .int .i64 hi := ha 2 _ rfl
 clear ha
 have hB := Below.refl w.heap.size w
 have hZ := Nat.le_refl w.heap.size
 refine wp_seq ?_
 refine wp_regJ (by kernel_rfl) [6] [some (.int .i64 0)] ((List.range 1).map List.range) [6] [0] [] (fun _ _ _ => True) (by kernel_rfl) (by rw [hz]; decide) ?_ (ec ?_ .nil) ?_
 · exact fun _ _ => trivial
 · exact fun Lk ak ww hL hdd haa hF hK hV hX Nk Qk hN => wnt rfl (wp_assign rfl rfl (hN _ _ hK rfl trivial))
 intro L a1 w2 hL hF hK hV hX
 replace hz := hF.size.trans hz
 replace hdf := hF.defers.trans hdf
 replace s0 := hF.g rfl s0
 replace s1 := hF.g rfl s1
 replace s2 := hF.g rfl s2
 replace hZ := Nat.le_trans hZ hK.size
 replace hB := hK.below0 hB
 clear hF hK hV hL hX
 refine th_n ?_
 refine wp_seq ?_
 refine wp_regJ (by kernel_rfl) [7, 8, 9, 10, 11, 6] [some (.int .i64 lo), some (.int .i64 n), some (.int .i64 hi), some (.int .i64 (min n hi)), some (.int .i64 (max lo (min n hi))), some (.int .i64 (max lo (min n hi)))] ((List.range 6).map List.range) [7, 8, 9, 10, 11, 6] [0, 1, 2, 3, 4, 5] [] (fun _ _ _ => True) (by kernel_rfl) (by rw [hz]; decide) ?_ (ec ?_ (ec ?_ (ec ?_ (ec ?_ (ec ?_ (ec ?_ .nil)))))) ?_
 · exact fun _ _ => trivial
 · exact fun Lk ak ww hL hdd haa hF hK hV hX Nk Qk hN => wnt rfl (wp_move rfl (ev (hF.g rfl s1)) (hN _ _ hK rfl trivial))
 · exact fun Lk ak ww hL hdd haa hF hK hV hX Nk Qk hN => wnt rfl (wp_move rfl (ev (hF.g rfl s0)) (hN _ _ hK rfl trivial))
 · exact fun Lk ak ww hL hdd haa hF hK hV hX Nk Qk hN => wnt rfl (wp_move rfl (ev (hF.g rfl s2)) (hN _ _ hK rfl trivial))
 · intro Lk ak ww hL hdd haa hF hK hV hX Nk Qk hN; refine wnt rfl ?_
   simp [go_sem, (show ak.tmps[8]?.getD undef = _ from hV 1 _ rfl (hdd 1 rfl)), (show ak.tmps[9]?.getD undef = _ from hV 2 _ rfl (hdd 2 rfl))]
   exact (hN _ _ hK rfl trivial)
 · intro Lk ak ww hL hdd haa hF hK hV hX Nk Qk hN; refine wnt rfl ?_
   simp [go_sem, (show ak.tmps[7]?.getD undef = _ from hV 0 _ rfl (hdd 0 rfl)), (show ak.tmps[10]?.getD undef = _ from hV 3 _ rfl (hdd 3 rfl))]
   exact (hN _ _ hK rfl trivial)
 · exact fun Lk ak ww hL hdd haa hF hK hV hX Nk Qk hN => wnt rfl (wp_assign rfl (ev (hV 4 _ rfl (hdd 4 rfl))) (hN _ _ hK rfl trivial))
 intro L a3 w4 hL hF hK hV hX
 replace hz := hF.size.trans hz
 replace hdf := hF.defers.trans hdf
 have s6 : a3.tmps[6]?.getD undef = .int .i64 (max lo (min n hi)) := hV 5 _ rfl
 replace hZ := Nat.le_trans hZ hK.size
 replace hB := hK.below0 hB
 clear hF hK hV hL hX s0 s1 s2
 refine th_n ?_
 refine wp_ret ?_
 refine bodyPost_ret (v := .int .i64 (max lo (min n hi))) (by simp [results, Tryz.results174, go_sem, s6]) hdf ?_
 exact ⟨rfl, hB⟩
set_option maxRecDepth 100000 in
set_option maxHeartbeats 3000000 in
theorem sInSpan_c (v : Span) (u : Ratio) (w : World) (hv : v.In) (hu : u.In) :
    Calls Tryz.prog 176 #[spanV v, ratioV u] w fun x w' => x = .returned (.bool (inSpan v u)) ∧ Below w.heap.size w w' := by
 refine calls_v Tryz.func176 rfl (n := 25) Tryz.ntmps176 (by simp) ?_
 intro a0 hz hdf ha
 have s0 : a0.tmps[0]?.getD undef = spanV v := ha 0 _ rfl
 have s1 : a0.tmps[1]?.getD undef = ratioV u := ha 1 _ rfl
 clear ha
 have hB := Below.refl w.heap.size w
 have hZ := Nat.le_refl w.heap.size
 refine wp_seq ?_
 refine wp_entry [2, 3, 4] [.pointer (some ⟨w.heap.size, 0, none⟩), .pointer (some ⟨(w.heap.size + 1), 0, none⟩), .bool false] [some (.cells [.int .i64 v.low.n, .int .i64 v.low.d, .int .i64 v.high.n, .int .i64 v.high.d].toArray 54), some (.cells [.int .i64 u.n, .int .i64 u.d].toArray 52), none] [0, 1, 2] [2, 3, 4] [0, 1, 2] (by kernel_rfl) (by rw [hz]; decide) (ec ?_ (ec ?_ (ec ?_ .nil))) ?_
 · intro a w' hF hs N Q hN; simp [go_sem, hF.g rfl s0]; rw [hs]; exact hN
 · intro a w' hF hs N Q hN; simp [go_sem, hF.g rfl s1]; rw [hs]; exact hN
 · intro a w' hF hs N Q hN; simp [go_sem]; exact hN
 intro a1 w2 hF hV hb hO
 replace hz := hF.size.trans hz
 replace hdf := hF.defers.trans hdf
 have s2 : a1.tmps[2]?.getD undef = .pointer (some ⟨w.heap.size, 0, none⟩) := hV 0 (by decide)
 have s3 : a1.tmps[3]?.getD undef = .pointer (some ⟨(w.heap.size + 1), 0, none⟩) := hV 1 (by decide)
 have b3 : HasT w2 w.heap.size 54 [.int .i64 v.low.n, .int .i64 v.low.d, .int .i64 v.high.n, .int .i64 v.high.d] := hO 0 _ rfl
 have b4 : HasT w2 (w.heap.size + 1) 52 [.int .i64 u.n, .int .i64 u.d] := hO 1 _ rfl
 have hG := b4.lt
 replace hB := below_tr hB hb
 have zw2 := Nat.le_trans hZ hb.size
 replace hZ := Nat.le_refl w2.heap.size
 clear hF hV hb hO s0 s1
 refine th_n ?_
 refine wp_seq ?_
 refine wp_regJ (by kernel_rfl) [5, 6, 7, 8, 9, 10, 11, 12, 13, 14, 15, 16, 17, 18, 19, 20, 21, 22, 23, 24, 4] [some (spanV v), some (.bool (spanOk v)), some (.bool (spanOk v)), some ((bif spanOk v then (ratioV u : Value) else undef)), some ((bif spanOk v then (.bool (ratioOk u) : Value) else undef)), some (.bool (spanOk v && ratioOk u)), some (.bool (spanOk v && ratioOk u)), some ((bif (spanOk v && ratioOk u) then (.pointer (some ⟨w.heap.size, 0, none⟩) : Value) else undef)), some ((bif (spanOk v && ratioOk u) then (.agg #[.int .i64 v.low.n, .int .i64 v.low.d] : Value) else undef)), some ((bif (spanOk v && ratioOk u) then (ratioV u : Value) else undef)), some ((bif (spanOk v && ratioOk u) then (.int .i64 (ratioCmp v.low u) : Value) else undef)), some ((bif (spanOk v && ratioOk u) then (.bool (decide (ratioCmp v.low u ≤ 0)) : Value) else undef)), some (.bool ((spanOk v && ratioOk u) && decide (ratioCmp v.low u ≤ 0))), some (.bool ((spanOk v && ratioOk u) && decide (ratioCmp v.low u ≤ 0))), some ((bif ((spanOk v && ratioOk u) && decide (ratioCmp v.low u ≤ 0)) then (ratioV u : Value) else undef)), some ((bif ((spanOk v && ratioOk u) && decide (ratioCmp v.low u ≤ 0)) then (.pointer (some ⟨w.heap.size, 2, none⟩) : Value) else undef)), some ((bif ((spanOk v && ratioOk u) && decide (ratioCmp v.low u ≤ 0)) then (.agg #[.int .i64 v.high.n, .int .i64 v.high.d] : Value) else undef)), some ((bif ((spanOk v && ratioOk u) && decide (ratioCmp v.low u ≤ 0)) then (.int .i64 (ratioCmp u v.high) : Value) else undef)), some ((bif ((spanOk v && ratioOk u) && decide (ratioCmp v.low u ≤ 0)) then (.bool (decide (ratioCmp u v.high ≤ 0)) : Value) else undef)), some (.bool (((spanOk v && ratioOk u) && decide (ratioCmp v.low u ≤ 0)) && decide (ratioCmp u v.high ≤ 0))), some (.bool (((spanOk v && ratioOk u) && decide (ratioCmp v.low u ≤ 0)) && decide (ratioCmp u v.high ≤ 0)))] ((List.range 21).map List.range) [5, 6, 7, 8, 9, 10, 11, 12, 13, 14, 15, 16, 17, 18, 19, 20, 21, 22, 23, 24, 4] [0, 1, 2, 3, 4, 5, 6, 7, 8, 9, 10, 11, 12, 13, 14, 15, 16, 17, 18, 19, 20] [] (fun _ _ _ => True) (by kernel_rfl) (by rw [hz]; decide) ?_ (ec ?_ (ec ?_ (ec ?_ (ec ?_ (ec ?_ (ec ?_ (ec ?_ (ec ?_ (ec ?_ (ec ?_ (ec ?_ (ec ?_ (ec ?_ (ec ?_ (ec ?_ (ec ?_ (ec ?_ (ec ?_ (ec ?_ (ec ?_ (ec ?_ .nil))))))))))))))))))))) ?_
 · exact fun _ _ => trivial
 · intro Lk ak ww hL hdd haa hF hK hV hX Nk Qk hN; refine wnt rfl ?_
   simp [go_sem, hF.g rfl s2, (b3.kp hK (by simp)).cell]
   exact (hN _ _ hK rfl trivial)
 · intro Lk ak ww hL hdd haa hF hK hV hX Nk Qk hN; refine wnt rfl ?_
   simp [go_sem, (show ak.tmps[5]?.getD undef = _ from hV 0 _ rfl (hdd 0 rfl))]
   refine (sSpanOk_c v ww hv).mono ?_
   rintro x wx ⟨rfl, hb⟩
   exact (hN _ _ (hK.call hb) rfl trivial)
 · exact fun Lk ak ww hL hdd haa hF hK hV hX Nk Qk hN => wnt rfl (wp_move rfl (ev (hV 1 _ rfl (hdd 1 rfl))) (hN _ _ hK rfl trivial))
 · intro Lk ak ww hL hdd haa hF hK hV hX Nk Qk hN
   refine wgt rfl rfl rfl (hV 2 _ rfl (hdd 2 rfl)) (fun qg => hN _ _ hK (bif_f qg).symm trivial) fun qg => ?_
   simp [go_sem, hF.g rfl s3, (b4.kp hK (by simp)).cell]
   exact (hN _ _ hK (bif_t qg).symm trivial)
 · intro Lk ak ww hL hdd haa hF hK hV hX Nk Qk hN
   refine wgt rfl rfl rfl (hV 2 _ rfl (hdd 2 rfl)) (fun qg => hN _ _ hK (bif_f qg).symm trivial) fun qg => ?_
   simp [go_sem, (show ak.tmps[8]?.getD undef = _ from (hV 3 _ rfl (hdd 3 rfl)).trans (bif_t qg))]
   refine (sRatioOk_c u ww hu).mono ?_
   rintro x wx ⟨rfl, hb⟩
   exact (hN _ _ (hK.call hb) (bif_t qg).symm trivial)
 · exact fun Lk ak ww hL hdd haa hF hK hV hX Nk Qk hN => wnt rfl (wp_pick rfl (ev (hV 2 _ rfl (hdd 2 rfl))) (fun h => (ev ((hV 4 _ rfl (hdd 4 rfl)).trans (bif_t h))).trans (vand_t h)) (fun h => vand_f h) (hN _ _ hK rfl trivial))
 · exact fun Lk ak ww hL hdd haa hF hK hV hX Nk Qk hN => wnt rfl (wp_move rfl (ev (hV 5 _ rfl (hdd 5 rfl))) (hN _ _ hK rfl trivial))
 · intro Lk ak ww hL hdd haa hF hK hV hX Nk Qk hN
   refine wgt rfl rfl rfl (hV 6 _ rfl (hdd 6 rfl)) (fun qg => hN _ _ hK (bif_f qg).symm trivial) fun qg => ?_
   simp [go_sem, hF.g rfl s2]
   exact (hN _ _ hK (bif_t qg).symm trivial)
 · intro Lk ak ww hL hdd haa hF hK hV hX Nk Qk hN
   refine wgt rfl rfl rfl (hV 6 _ rfl (hdd 6 rfl)) (fun qg => hN _ _ hK (bif_f qg).symm trivial) fun qg => ?_
   simp [go_sem, (show ak.tmps[12]?.getD undef = _ from (hV 7 _ rfl (hdd 7 rfl)).trans (bif_t qg)), (b3.kp hK (by simp)).cell]
   exact (hN _ _ hK (bif_t qg).symm trivial)
 · intro Lk ak ww hL hdd haa hF hK hV hX Nk Qk hN
   refine wgt rfl rfl rfl (hV 6 _ rfl (hdd 6 rfl)) (fun qg => hN _ _ hK (bif_f qg).symm trivial) fun qg => ?_
   simp [go_sem, hF.g rfl s3, (b4.kp hK (by simp)).cell]
   exact (hN _ _ hK (bif_t qg).symm trivial)
 · intro Lk ak ww hL hdd haa hF hK hV hX Nk Qk hN
   refine wgt rfl rfl rfl (hV 6 _ rfl (hdd 6 rfl)) (fun qg => hN _ _ hK (bif_f qg).symm trivial) fun qg => ?_
   simp [go_sem, (show ak.tmps[13]?.getD undef = _ from (hV 8 _ rfl (hdd 8 rfl)).trans (bif_t qg)), (show ak.tmps[14]?.getD undef = _ from (hV 9 _ rfl (hdd 9 rfl)).trans (bif_t qg))]
   refine (sRatioCmp_c v.low u ww hv.1 hu).mono ?_
   rintro x wx ⟨rfl, hb⟩
   exact (hN _ _ (hK.call hb) (bif_t qg).symm trivial)
 · intro Lk ak ww hL hdd haa hF hK hV hX Nk Qk hN
   refine wgt rfl rfl rfl (hV 6 _ rfl (hdd 6 rfl)) (fun qg => hN _ _ hK (bif_f qg).symm trivial) fun qg => ?_
   exact wp_bin rfl (ev ((hV 10 _ rfl (hdd 10 rfl)).trans (bif_t qg))) rfl rfl rfl (hN _ _ hK (bif_t qg).symm trivial)
 · exact fun Lk ak ww hL hdd haa hF hK hV hX Nk Qk hN => wnt rfl (wp_pick rfl (ev (hV 6 _ rfl (hdd 6 rfl))) (fun h => (ev ((hV 11 _ rfl (hdd 11 rfl)).trans (bif_t h))).trans (vand_t h)) (fun h => vand_f h) (hN _ _ hK rfl trivial))
 · exact fun Lk ak ww hL hdd haa hF hK hV hX Nk Qk hN => wnt rfl (wp_move rfl (ev (hV 12 _ rfl (hdd 12 rfl))) (hN _ _ hK rfl trivial))
 · intro Lk ak ww hL hdd haa hF hK hV hX Nk Qk hN
   refine wgt rfl rfl rfl (hV 13 _ rfl (hdd 13 rfl)) (fun qg => hN _ _ hK (bif_f qg).symm trivial) fun qg => ?_
   simp [go_sem, hF.g rfl s3, (b4.kp hK (by simp)).cell]
   exact (hN _ _ hK (bif_t qg).symm trivial)
 · intro Lk ak ww hL hdd haa hF hK hV hX Nk Qk hN
   refine wgt rfl rfl rfl (hV 13 _ rfl (hdd 13 rfl)) (fun qg => hN _ _ hK (bif_f qg).symm trivial) fun qg => ?_
   simp [go_sem, hF.g rfl s2]
   exact (hN _ _ hK (bif_t qg).symm trivial)
 · intro Lk ak ww hL hdd haa hF hK hV hX Nk Qk hN
   refine wgt rfl rfl rfl (hV 13 _ rfl (hdd 13 rfl)) (fun qg => hN _ _ hK (bif_f qg).symm trivial) fun qg => ?_
   simp [go_sem, (show ak.tmps[20]?.getD undef = _ from (hV 15 _ rfl (hdd 15 rfl)).trans (bif_t qg)), (b3.kp hK (by simp)).cell]
   exact (hN _ _ hK (bif_t qg).symm trivial)
 · intro Lk ak ww hL hdd haa hF hK hV hX Nk Qk hN
   refine wgt rfl rfl rfl (hV 13 _ rfl (hdd 13 rfl)) (fun qg => hN _ _ hK (bif_f qg).symm trivial) fun qg => ?_
   simp [go_sem, (show ak.tmps[19]?.getD undef = _ from (hV 14 _ rfl (hdd 14 rfl)).trans (bif_t qg)), (show ak.tmps[21]?.getD undef = _ from (hV 16 _ rfl (hdd 16 rfl)).trans (bif_t qg))]
   refine (sRatioCmp_c u v.high ww hu hv.2).mono ?_
   rintro x wx ⟨rfl, hb⟩
   exact (hN _ _ (hK.call hb) (bif_t qg).symm trivial)
 · intro Lk ak ww hL hdd haa hF hK hV hX Nk Qk hN
   refine wgt rfl rfl rfl (hV 13 _ rfl (hdd 13 rfl)) (fun qg => hN _ _ hK (bif_f qg).symm trivial) fun qg => ?_
   exact wp_bin rfl (ev ((hV 17 _ rfl (hdd 17 rfl)).trans (bif_t qg))) rfl rfl rfl (hN _ _ hK (bif_t qg).symm trivial)
 · exact fun Lk ak ww hL hdd haa hF hK hV hX Nk Qk hN => wnt rfl (wp_pick rfl (ev (hV 13 _ rfl (hdd 13 rfl))) (fun h => (ev ((hV 18 _ rfl (hdd 18 rfl)).trans (bif_t h))).trans (vand_t h)) (fun h => vand_f h) (hN _ _ hK rfl trivial))
 · exact fun Lk ak ww hL hdd haa hF hK hV hX Nk Qk hN => wnt rfl (wp_assign rfl (ev (hV 19 _ rfl (hdd 19 rfl))) (hN _ _ hK rfl trivial))
 intro L a5 w6 hL hF hK hV hX
 replace hz := hF.size.trans hz
 replace hdf := hF.defers.trans hdf
 have s4 : a5.tmps[4]?.getD undef = .bool (((spanOk v && ratioOk u) && decide (ratioCmp v.low u ≤ 0)) && decide (ratioCmp u v.high ≤ 0)) := hV 20 _ rfl
 replace hZ := Nat.le_trans hZ hK.size
 replace hB := hK.below0 hB
 clear hF hK hV hL hX s2 s3 b3 b4
 refine th_n ?_
 refine wp_ret ?_
 refine bodyPost_ret (v := .bool (((spanOk v && ratioOk u) && decide (ratioCmp v.low u ≤ 0)) && decide (ratioCmp u v.high ≤ 0))) (by simp [results, Tryz.results176, go_sem, s4]) hdf ?_
 exact ⟨by unfold inSpan; rfl, hB⟩
theorem sWhole_c (n : Int) (w : World) (h : -1000000000000000000 ≤ n ∧ n ≤ 1000000000000000000) :
    Calls Tryz.prog 175 #[.int .i64 n, .int .i64 1] w fun x w' => x = .returned (ratioV ⟨n, 1⟩) ∧ Below w.heap.size w w' := by
  have := sRatioOf_c n 1 w ⟨by omega, by omega⟩ ⟨by omega, by omega⟩
  rw [ratio_whole h] at this
  exact this
set_option maxRecDepth 100000 in
set_option maxHeartbeats 3000000 in
theorem iPick_c (v : Span) (wish : Int) (w : World) (hv : v.In) :
    Calls Tryz.prog 181 #[spanV v, .int .i64 wish] w fun x w' => x = .returned (ratioV (pick v wish)) ∧ Below w.heap.size w w' := by
 refine calls_v Tryz.func181 rfl (n := 51) Tryz.ntmps181 (by simp) ?_
 intro a0 hz hdf ha
 have s0 : a0.tmps[0]?.getD undef = spanV v := ha 0 _ rfl
 have s1 : a0.tmps[1]?.getD undef = .int .i64 wish := ha 1 _ rfl
 clear ha
 have hB := Below.refl w.heap.size w
 have hZ := Nat.le_refl w.heap.size
 refine wp_seq ?_
 refine wp_entry [2, 4] [.pointer (some ⟨w.heap.size, 0, none⟩), .pointer (some ⟨(w.heap.size + 1), 0, none⟩)] [some (.cells [.int .i64 v.low.n, .int .i64 v.low.d, .int .i64 v.high.n, .int .i64 v.high.d].toArray 54), some (.cells [.int .i64 0, .int .i64 0].toArray 52)] [0, 1] [2, 4] [0, 1] (by kernel_rfl) (by rw [hz]; decide) (ec ?_ (ec ?_ .nil)) ?_
 · intro a w' hF hs N Q hN; simp [go_sem, hF.g rfl s0]; rw [hs]; exact hN
 · intro a w' hF hs N Q hN; simp [go_sem]; rw [hs]; exact hN
 intro a1 w2 hF hV hb hO
 replace hz := hF.size.trans hz
 replace hdf := hF.defers.trans hdf
 replace s1 := hF.g rfl s1
 have s2 : a1.tmps[2]?.getD undef = .pointer (some ⟨w.heap.size, 0, none⟩) := hV 0 (by decide)
 have s4 : a1.tmps[4]?.getD undef = .pointer (some ⟨(w.heap.size + 1), 0, none⟩) := hV 1 (by decide)
 have b3 : HasT w2 w.heap.size 54 [.int .i64 v.low.n, .int .i64 v.low.d, .int .i64 v.high.n, .int .i64 v.high.d] := hO 0 _ rfl
 have b4 : HasT w2 (w.heap.size + 1) 52 [.int .i64 0, .int .i64 0] := hO 1 _ rfl
 have hG := b4.lt
 replace hB := below_tr hB hb
 have zw2 := Nat.le_trans hZ hb.size
 replace hZ := Nat.le_refl w2.heap.size
 clear hF hV hb hO s0
 refine th_n ?_
 refine wp_seq ?_
 refine wp_seq ?_
 refine wp_regJ (by kernel_rfl) [8, 9, 10] [some (spanV v), some (.bool (spanOk v)), some (.bool (!(spanOk v)))] ((List.range 3).map List.range) [8, 9, 10] [0, 1, 2] [] (fun _ _ _ => True) (by kernel_rfl) (by rw [hz]; decide) ?_ (ec ?_ (ec ?_ (ec ?_ .nil))) ?_
 · exact fun _ _ => trivial
 · intro Lk ak ww hL hdd haa hF hK hV hX Nk Qk hN; refine wnt rfl ?_
   simp [go_sem, hF.g rfl s2, (b3.kp hK (by simp)).cell]
   exact (hN _ _ hK rfl trivial)
 · intro Lk ak ww hL hdd haa hF hK hV hX Nk Qk hN; refine wnt rfl ?_
   simp [go_sem, (show ak.tmps[8]?.getD undef = _ from hV 0 _ rfl (hdd 0 rfl))]
   refine (iSpanOk_c v ww hv).mono ?_
   rintro x wx ⟨rfl, hb⟩
   exact (hN _ _ (hK.call hb) rfl trivial)
 · exact fun Lk ak ww hL hdd haa hF hK hV hX Nk Qk hN => wnt rfl (wp_not rfl (ev (hV 1 _ rfl (hdd 1 rfl))) (hN _ _ hK rfl trivial))
 intro L a5 w6 hL hF hK hV hX
 replace hz := hF.size.trans hz
 replace hdf := hF.defers.trans hdf
 replace s1 := hF.g rfl s1
 replace s2 := hF.g rfl s2
 replace s4 := hF.g rfl s4
 have s10 : a5.tmps[10]?.getD undef = .bool (!(spanOk v)) := hV 2 _ rfl
 replace b3 := b3.kp hK (by simp)
 replace b4 := b4.kp hK (by simp)
 replace hZ := Nat.le_trans hZ hK.size
 replace hB := hK.below0 hB
 clear hF hK hV hL hX
 refine th_n ?_
 rcases Bool.eq_false_or_eq_true (!(spanOk v)) with q7 | q7
 · skip
   refine wp_cond_true (ev (vb s10 q7)) ?_
   refine wp_seq ?_
   refine wp_regJ (by kernel_rfl) [11, 0] [some (.agg #[.int .i64 0, .int .i64 0]), none] ((List.range 2).map List.range) [11] [0, 1] [(w.heap.size + 1)] (fun L aa ww => PreX ww (w.heap.size + 1) 52 [.int .i64 0, .int .i64 0] (L 1) (fun _ vs => vs = [.int .i64 0, .int .i64 0])) (by kernel_rfl) (by rw [hz]; decide) ?_ (ec ?_ (ec ?_ .nil)) ?_
   · exact fun _ h => (⟨fun _ => b4.kp h (by simp), (fun h => by cases h)⟩)
   · intro Lk ak ww hL hdd haa hF hK hV hX Nk Qk hN; refine wnt rfl ?_
     simp [go_sem]
     exact (hN _ _ hK rfl (hX.bel (Below.refl _ _) (fun _ h => h)))
   · intro Lk ak ww hL hdd haa hF hK hV hX Nk Qk hN
     have x0 := hX
     refine wnt rfl ?_
     have HT := x0.1 hL
     simp [go_sem, (show ak.tmps[11]?.getD undef = _ from hV 0 _ rfl (hdd 0 rfl)), hF.g rfl s4, HT.cell, HT.frz]
     exact hN undef _ (hK.store (.inr (by simp)) [.int .i64 0, .int .i64 0] 0) trivial (PreX.set HT (us := [.int .i64 0, .int .i64 0]) rfl rfl)
   intro L a8 w9 hL hF hK hV hX
   have x0 := hX
   replace hz := hF.size.trans hz
   replace hdf := hF.defers.trans hdf
   replace s4 := hF.g rfl s4
   clear b4
   obtain ⟨_, b4, rfl⟩ := x0.2 (hL 1 (by decide))
   replace hZ := Nat.le_trans hZ hK.size
   replace hB := hK.below hB hB.size (by simp <;> omega)
   clear hF hK hV hL x0 s1 s2 s10 b3
   refine th_n ?_
   refine wp_ret ?_
   refine th_r ?_
   refine bodyPost_ret (v := .agg #[.int .i64 0, .int .i64 0]) (by simp [results, Tryz.results181, go_sem, s4, b4.cell]) hdf ?_
   exact ⟨by rw [show pick v wish = ⟨0, 0⟩ by unfold pick clampW; rw [if_neg (by rw [not_t q7]; simp)]; rfl], hB⟩
 · skip
   have cb := ceil_bd (spanOk_r (not_f q7)).1
   have fb := floor_bd (spanOk_r (not_f q7)).2
   refine wp_cond_false (ev (vb s10 q7)) ?_
   refine wp_skip ?_
   refine th_n ?_
   refine wp_seq ?_
   refine wp_regJ (by kernel_rfl) [12, 13, 14, 15, 5, 0] [some (.int .i64 wish), some (.int .i64 (min 1000 wish)), some (.int .i64 (max (-1000) (min 1000 wish))), some (.agg #[.int .i64 (max (-1000) (min 1000 wish)), .int .i64 1]), none, none] ((List.range 6).map List.range) [12, 13, 14, 15, 5] [0, 1, 2, 3, 4, 5] [] (fun L aa ww => (L 4 = true → BoxX w6 aa ww 5 52 [.int .i64 0, .int .i64 0] (L 5) (fun _ vs => vs = [.int .i64 (max (-1000) (min 1000 wish)), .int .i64 1]))) (by kernel_rfl) (by rw [hz]; decide) ?_ (ec ?_ (ec ?_ (ec ?_ (ec ?_ (ec ?_ (ec ?_ .nil)))))) ?_
   · exact fun _ h => (fun h => by cases h)
   · exact fun Lk ak ww hL hdd haa hF hK hV hX Nk Qk hN => wnt rfl (wp_move rfl (ev (hF.g rfl s1)) (hN _ _ hK rfl (fun h => ((hX h).bel (Below.refl _ _) (fun _ h => h)).put (by decide) _)))
   · intro Lk ak ww hL hdd haa hF hK hV hX Nk Qk hN; refine wnt rfl ?_
     simp [go_sem, (show ak.tmps[12]?.getD undef = _ from hV 0 _ rfl (hdd 0 rfl))]
     exact (hN _ _ hK rfl (fun h => ((hX h).bel (Below.refl _ _) (fun _ h => h)).put (by decide) _))
   · intro Lk ak ww hL hdd haa hF hK hV hX Nk Qk hN; refine wnt rfl ?_
     simp [go_sem, (show ak.tmps[13]?.getD undef = _ from hV 1 _ rfl (hdd 1 rfl))]
     exact (hN _ _ hK rfl (fun h => ((hX h).bel (Below.refl _ _) (fun _ h => h)).put (by decide) _))
   · intro Lk ak ww hL hdd haa hF hK hV hX Nk Qk hN; refine wnt rfl ?_
     simp [go_sem, (show ak.tmps[14]?.getD undef = _ from hV 2 _ rfl (hdd 2 rfl))]
     refine (whole_c (max (-1000) (min 1000 wish)) ww).mono ?_
     rintro x wx ⟨rfl, hb⟩
     exact (hN _ _ (hK.call hb) rfl (fun h => ((hX h).bel hb (fun _ h => h)).put (by decide) _))
   · intro Lk ak ww hL hdd haa hF hK hV hX Nk Qk hN
     have x0 := hX
     refine wnt rfl ?_
     simp [go_sem]
     exact hN _ _ (hK.alloc _) trivial (fun _ => by rw [show upd Lk 4 5 = false from haa 5 rfl]; exact BoxX.new (s := 5) (hF.lt (by rw [hz]; decide)) hK.size [.int .i64 0, .int .i64 0])
   · intro Lk ak ww hL hdd haa hF hK hV hX Nk Qk hN
     have x0 := hX
     refine wnt rfl ?_
     obtain ⟨g, eg, hg, y, _⟩ := x0 (hdd 4 rfl)
     have HT := y hL
     simp [go_sem, (show ak.tmps[15]?.getD undef = _ from hV 3 _ rfl (hdd 3 rfl)), eg, HT.cell, HT.frz]
     exact hN undef _ (hK.store (.inl hg) [.int .i64 (max (-1000) (min 1000 wish)), .int .i64 1] 0) trivial (fun _ => BoxX.set eg hg HT (us := [.int .i64 (max (-1000) (min 1000 wish)), .int .i64 1]) rfl rfl)
   intro L a10 w11 hL hF hK hV hX
   have x0 := hX
   replace hz := hF.size.trans hz
   replace hdf := hF.defers.trans hdf
   replace s2 := hF.g rfl s2
   replace s4 := hF.g rfl s4
   replace b3 := b3.kp hK (by simp)
   replace b4 := b4.kp hK (by simp)
   obtain ⟨g12, s5, lg12, -, b12⟩ := x0 (hL 4 (by decide))
   obtain ⟨_, b12, rfl⟩ := b12 (hL 5 (by decide))
   have ug12 := b12.lt
   have zw6 := hZ
   have zw11 := hK.size
   replace hZ := Nat.le_refl w11.heap.size
   replace hB := hK.below0 hB
   clear hF hK hV hL x0 s1 s10
   refine th_n ?_
   refine wp_seq ?_
   refine wp_seq ?_
   refine wp_regJ (by kernel_rfl) [16, 17, 18, 19, 20] [some (.agg #[.int .i64 (max (-1000) (min 1000 wish)), .int .i64 1]), some (.pointer (some ⟨w.heap.size, 0, none⟩)), some (.agg #[.int .i64 v.low.n, .int .i64 v.low.d]), some (.int .i64 (ratioCmp ⟨max (-1000) (min 1000 wish), 1⟩ v.low)), some (.bool (decide (ratioCmp ⟨max (-1000) (min 1000 wish), 1⟩ v.low < 0)))] ((List.range 5).map List.range) [16, 17, 18, 19, 20] [0, 1, 2, 3, 4] [] (fun _ _ _ => True) (by kernel_rfl) (by rw [hz]; decide) ?_ (ec ?_ (ec ?_ (ec ?_ (ec ?_ (ec ?_ .nil))))) ?_
   · exact fun _ _ => trivial
   · intro Lk ak ww hL hdd haa hF hK hV hX Nk Qk hN; refine wnt rfl ?_
     simp [go_sem, hF.g rfl s5, (b12.kp hK (by simp)).cell]
     exact (hN _ _ hK rfl trivial)
   · intro Lk ak ww hL hdd haa hF hK hV hX Nk Qk hN; refine wnt rfl ?_
     simp [go_sem, hF.g rfl s2]
     exact (hN _ _ hK rfl trivial)
   · intro Lk ak ww hL hdd haa hF hK hV hX Nk Qk hN; refine wnt rfl ?_
     simp [go_sem, (show ak.tmps[17]?.getD undef = _ from hV 1 _ rfl (hdd 1 rfl)), (b3.kp hK (by simp)).cell]
     exact (hN _ _ hK rfl trivial)
   · intro Lk ak ww hL hdd haa hF hK hV hX Nk Qk hN; refine wnt rfl ?_
     simp [go_sem, (show ak.tmps[16]?.getD undef = _ from hV 0 _ rfl (hdd 0 rfl)), (show ak.tmps[18]?.getD undef = _ from hV 2 _ rfl (hdd 2 rfl))]
     refine (iRatioCmp_c ⟨max (-1000) (min 1000 wish), 1⟩ v.low ww (whIn (by omega)) hv.1).mono ?_
     rintro x wx ⟨rfl, hb⟩
     exact (hN _ _ (hK.call hb) rfl trivial)
   · exact fun Lk ak ww hL hdd haa hF hK hV hX Nk Qk hN => wnt rfl (wp_bin rfl (ev (hV 3 _ rfl (hdd 3 rfl))) rfl rfl rfl (hN _ _ hK rfl trivial))
   intro L a13 w14 hL hF hK hV hX
   replace hz := hF.size.trans hz
   replace hdf := hF.defers.trans hdf
   replace s2 := hF.g rfl s2
   replace s4 := hF.g rfl s4
   replace s5 := hF.g rfl s5
   have s20 : a13.tmps[20]?.getD undef = .bool (decide (ratioCmp ⟨max (-1000) (min 1000 wish), 1⟩ v.low < 0)) := hV 4 _ rfl
   replace b3 := b3.kp hK (by simp)
   replace b4 := b4.kp hK (by simp)
   replace b12 := b12.kp hK (by simp)
   replace hZ := Nat.le_trans hZ hK.size
   replace hB := hK.below0 hB
   clear hF hK hV hL hX
   refine th_n ?_
   rcases Bool.eq_false_or_eq_true (decide (ratioCmp ⟨max (-1000) (min 1000 wish), 1⟩ v.low < 0)) with q15 | q15
   · skip
     refine wp_cond_true (ev (vb s20 q15)) ?_
     refine wp_seq ?_
     refine wp_seq ?_
     refine wp_regJ (by kernel_rfl) [21, 22, 23, 24, 6, 0] [some (.pointer (some ⟨w.heap.size, 0, none⟩)), some (.agg #[.int .i64 v.low.n, .int .i64 v.low.d]), some (.int .i64 (ratCeil v.low)), some (.agg #[.int .i64 (ratCeil v.low), .int .i64 1]), none, none] ((List.range 6).map List.range) [21, 22, 23, 24, 6] [0, 1, 2, 3, 4, 5] [] (fun L aa ww => (L 4 = true → BoxX w14 aa ww 6 52 [.int .i64 0, .int .i64 0] (L 5) (fun _ vs => vs = [.int .i64 (ratCeil v.low), .int .i64 1]))) (by kernel_rfl) (by rw [hz]; decide) ?_ (ec ?_ (ec ?_ (ec ?_ (ec ?_ (ec ?_ (ec ?_ .nil)))))) ?_
     · exact fun _ h => (fun h => by cases h)
     · intro Lk ak ww hL hdd haa hF hK hV hX Nk Qk hN; refine wnt rfl ?_
       simp [go_sem, hF.g rfl s2]
       exact (hN _ _ hK rfl (fun h => ((hX h).bel (Below.refl _ _) (fun _ h => h)).put (by decide) _))
     · intro Lk ak ww hL hdd haa hF hK hV hX Nk Qk hN; refine wnt rfl ?_
       simp [go_sem, (show ak.tmps[21]?.getD undef = _ from hV 0 _ rfl (hdd 0 rfl)), (b3.kp hK (by simp)).cell]
       exact (hN _ _ hK rfl (fun h => ((hX h).bel (Below.refl _ _) (fun _ h => h)).put (by decide) _))
     · intro Lk ak ww hL hdd haa hF hK hV hX Nk Qk hN; refine wnt rfl ?_
       simp [go_sem, (show ak.tmps[22]?.getD undef = _ from hV 1 _ rfl (hdd 1 rfl))]
       refine (iRatCeil_c v.low ww hv.1).mono ?_
       rintro x wx ⟨rfl, hb⟩
       exact (hN _ _ (hK.call hb) rfl (fun h => ((hX h).bel hb (fun _ h => h)).put (by decide) _))
     · intro Lk ak ww hL hdd haa hF hK hV hX Nk Qk hN; refine wnt rfl ?_
       simp [go_sem, (show ak.tmps[23]?.getD undef = _ from hV 2 _ rfl (hdd 2 rfl))]
       refine (whole_c (ratCeil v.low) ww).mono ?_
       rintro x wx ⟨rfl, hb⟩
       exact (hN _ _ (hK.call hb) rfl (fun h => ((hX h).bel hb (fun _ h => h)).put (by decide) _))
     · intro Lk ak ww hL hdd haa hF hK hV hX Nk Qk hN
       have x0 := hX
       refine wnt rfl ?_
       simp [go_sem]
       exact hN _ _ (hK.alloc _) trivial (fun _ => by rw [show upd Lk 4 5 = false from haa 5 rfl]; exact BoxX.new (s := 6) (hF.lt (by rw [hz]; decide)) hK.size [.int .i64 0, .int .i64 0])
     · intro Lk ak ww hL hdd haa hF hK hV hX Nk Qk hN
       have x0 := hX
       refine wnt rfl ?_
       obtain ⟨g, eg, hg, y, _⟩ := x0 (hdd 4 rfl)
       have HT := y hL
       simp [go_sem, (show ak.tmps[24]?.getD undef = _ from hV 3 _ rfl (hdd 3 rfl)), eg, HT.cell, HT.frz]
       exact hN undef _ (hK.store (.inl hg) [.int .i64 (ratCeil v.low), .int .i64 1] 0) trivial (fun _ => BoxX.set eg hg HT (us := [.int .i64 (ratCeil v.low), .int .i64 1]) rfl rfl)
     intro L a16 w17 hL hF hK hV hX
     have x0 := hX
     replace hz := hF.size.trans hz
     replace hdf := hF.defers.trans hdf
     replace s2 := hF.g rfl s2
     replace s4 := hF.g rfl s4
     replace b3 := b3.kp hK (by simp)
     replace b4 := b4.kp hK (by simp)
     obtain ⟨g18, s6, lg18, -, b18⟩ := x0 (hL 4 (by decide))
     obtain ⟨_, b18, rfl⟩ := b18 (hL 5 (by decide))
     have ug18 := b18.lt
     have zw14 := hZ
     have zw17 := hK.size
     replace hZ := Nat.le_refl w17.heap.size
     replace hB := hK.below0 hB
     clear hF hK hV hL x0 s5 s20 b12
     refine th_n ?_
     refine wp_seq ?_
     refine wp_regJ (by kernel_rfl) [25, 26, 27, 28, 29] [some (.agg #[.int .i64 (ratCeil v.low), .int .i64 1]), some (.pointer (some ⟨w.heap.size, 2, none⟩)), some (.agg #[.int .i64 v.high.n, .int .i64 v.high.d]), some (.int .i64 (ratioCmp ⟨ratCeil v.low, 1⟩ v.high)), some (.bool (decide (ratioCmp ⟨ratCeil v.low, 1⟩ v.high ≤ 0)))] ((List.range 5).map List.range) [25, 26, 27, 28, 29] [0, 1, 2, 3, 4] [] (fun _ _ _ => True) (by kernel_rfl) (by rw [hz]; decide) ?_ (ec ?_ (ec ?_ (ec ?_ (ec ?_ (ec ?_ .nil))))) ?_
     · exact fun _ _ => trivial
     · intro Lk ak ww hL hdd haa hF hK hV hX Nk Qk hN; refine wnt rfl ?_
       simp [go_sem, hF.g rfl s6, (b18.kp hK (by simp)).cell]
       exact (hN _ _ hK rfl trivial)
     · intro Lk ak ww hL hdd haa hF hK hV hX Nk Qk hN; refine wnt rfl ?_
       simp [go_sem, hF.g rfl s2]
       exact (hN _ _ hK rfl trivial)
     · intro Lk ak ww hL hdd haa hF hK hV hX Nk Qk hN; refine wnt rfl ?_
       simp [go_sem, (show ak.tmps[26]?.getD undef = _ from hV 1 _ rfl (hdd 1 rfl)), (b3.kp hK (by simp)).cell]
       exact (hN _ _ hK rfl trivial)
     · intro Lk ak ww hL hdd haa hF hK hV hX Nk Qk hN; refine wnt rfl ?_
       simp [go_sem, (show ak.tmps[25]?.getD undef = _ from hV 0 _ rfl (hdd 0 rfl)), (show ak.tmps[27]?.getD undef = _ from hV 2 _ rfl (hdd 2 rfl))]
       refine (iRatioCmp_c ⟨ratCeil v.low, 1⟩ v.high ww (whIn (by omega)) hv.2).mono ?_
       rintro x wx ⟨rfl, hb⟩
       exact (hN _ _ (hK.call hb) rfl trivial)
     · exact fun Lk ak ww hL hdd haa hF hK hV hX Nk Qk hN => wnt rfl (wp_bin rfl (ev (hV 3 _ rfl (hdd 3 rfl))) rfl rfl rfl (hN _ _ hK rfl trivial))
     intro L a19 w20 hL hF hK hV hX
     replace hz := hF.size.trans hz
     replace hdf := hF.defers.trans hdf
     replace s2 := hF.g rfl s2
     replace s4 := hF.g rfl s4
     replace s6 := hF.g rfl s6
     have s29 : a19.tmps[29]?.getD undef = .bool (decide (ratioCmp ⟨ratCeil v.low, 1⟩ v.high ≤ 0)) := hV 4 _ rfl
     replace b3 := b3.kp hK (by simp)
     replace b4 := b4.kp hK (by simp)
     replace b18 := b18.kp hK (by simp)
     replace hZ := Nat.le_trans hZ hK.size
     replace hB := hK.below0 hB
     clear hF hK hV hL hX
     refine th_n ?_
     rcases Bool.eq_false_or_eq_true (decide (ratioCmp ⟨ratCeil v.low, 1⟩ v.high ≤ 0)) with q21 | q21
     · skip
       refine wp_cond_true (ev (vb s29 q21)) ?_
       refine wp_seq ?_
       refine wp_regJ (by kernel_rfl) [30, 0] [some (.agg #[.int .i64 (ratCeil v.low), .int .i64 1]), none] ((List.range 2).map List.range) [30] [0, 1] [(w.heap.size + 1)] (fun L aa ww => PreX ww (w.heap.size + 1) 52 [.int .i64 0, .int .i64 0] (L 1) (fun _ vs => vs = [.int .i64 (ratCeil v.low), .int .i64 1])) (by kernel_rfl) (by rw [hz]; decide) ?_ (ec ?_ (ec ?_ .nil)) ?_
       · exact fun _ h => (⟨fun _ => b4.kp h (by simp), (fun h => by cases h)⟩)
       · intro Lk ak ww hL hdd haa hF hK hV hX Nk Qk hN; refine wnt rfl ?_
         simp [go_sem, hF.g rfl s6, (b18.kp hK (by simp <;> omega)).cell]
         exact (hN _ _ hK rfl (hX.bel (Below.refl _ _) (fun _ h => h)))
       · intro Lk ak ww hL hdd haa hF hK hV hX Nk Qk hN
         have x0 := hX
         refine wnt rfl ?_
         have HT := x0.1 hL
         simp [go_sem, (show ak.tmps[30]?.getD undef = _ from hV 0 _ rfl (hdd 0 rfl)), hF.g rfl s4, HT.cell, HT.frz]
         exact hN undef _ (hK.store (.inr (by simp)) [.int .i64 (ratCeil v.low), .int .i64 1] 0) trivial (PreX.set HT (us := [.int .i64 (ratCeil v.low), .int .i64 1]) rfl rfl)
       intro L a22 w23 hL hF hK hV hX
       have x0 := hX
       replace hz := hF.size.trans hz
       replace hdf := hF.defers.trans hdf
       replace s4 := hF.g rfl s4
       clear b4
       obtain ⟨_, b4, rfl⟩ := x0.2 (hL 1 (by decide))
       replace hZ := Nat.le_trans hZ hK.size
       replace hB := hK.below hB hB.size (by simp <;> omega)
       clear hF hK hV hL x0 s2 s6 s29 b3 b18
       refine th_n ?_
       refine wp_ret ?_
       refine th_r (th_r ?_)
       refine bodyPost_ret (v := .agg #[.int .i64 (ratCeil v.low), .int .i64 1]) (by simp [results, Tryz.results181, go_sem, s4, b4.cell]) hdf ?_
       exact ⟨by rw [show pick v wish = ⟨ratCeil v.low, 1⟩ by unfold pick clampW; rw [if_pos (by rw [not_f q7]), if_pos (dec_t q15), if_pos (dec_t q21)]], hB⟩
     · skip
       refine wp_cond_false (ev (vb s29 q21)) ?_
       refine wp_skip ?_
       refine th_n ?_
       refine wp_seq ?_
       refine wp_regJ (by kernel_rfl) [31, 32, 0] [some (.pointer (some ⟨w.heap.size, 0, none⟩)), some (.agg #[.int .i64 v.low.n, .int .i64 v.low.d]), none] ((List.range 3).map List.range) [31, 32] [0, 1, 2] [(w.heap.size + 1)] (fun L aa ww => PreX ww (w.heap.size + 1) 52 [.int .i64 0, .int .i64 0] (L 2) (fun _ vs => vs = [.int .i64 v.low.n, .int .i64 v.low.d])) (by kernel_rfl) (by rw [hz]; decide) ?_ (ec ?_ (ec ?_ (ec ?_ .nil))) ?_
       · exact fun _ h => (⟨fun _ => b4.kp h (by simp), (fun h => by cases h)⟩)
       · intro Lk ak ww hL hdd haa hF hK hV hX Nk Qk hN; refine wnt rfl ?_
         simp [go_sem, hF.g rfl s2]
         exact (hN _ _ hK rfl (hX.bel (Below.refl _ _) (fun _ h => h)))
       · intro Lk ak ww hL hdd haa hF hK hV hX Nk Qk hN; refine wnt rfl ?_
         simp [go_sem, (show ak.tmps[31]?.getD undef = _ from hV 0 _ rfl (hdd 0 rfl)), (b3.kp hK (by simp <;> omega)).cell]
         exact (hN _ _ hK rfl (hX.bel (Below.refl _ _) (fun _ h => h)))
       · intro Lk ak ww hL hdd haa hF hK hV hX Nk Qk hN
         have x0 := hX
         refine wnt rfl ?_
         have HT := x0.1 hL
         simp [go_sem, (show ak.tmps[32]?.getD undef = _ from hV 1 _ rfl (hdd 1 rfl)), hF.g rfl s4, HT.cell, HT.frz]
         exact hN undef _ (hK.store (.inr (by simp)) [.int .i64 v.low.n, .int .i64 v.low.d] 0) trivial (PreX.set HT (us := [.int .i64 v.low.n, .int .i64 v.low.d]) rfl rfl)
       intro L a24 w25 hL hF hK hV hX
       have x0 := hX
       replace hz := hF.size.trans hz
       replace hdf := hF.defers.trans hdf
       replace s4 := hF.g rfl s4
       clear b4
       obtain ⟨_, b4, rfl⟩ := x0.2 (hL 2 (by decide))
       replace hZ := Nat.le_trans hZ hK.size
       replace hB := hK.below hB hB.size (by simp <;> omega)
       clear hF hK hV hL x0 s2 s6 s29 b3 b18
       refine th_n ?_
       refine wp_ret ?_
       refine th_r ?_
       refine bodyPost_ret (v := .agg #[.int .i64 v.low.n, .int .i64 v.low.d]) (by simp [results, Tryz.results181, go_sem, s4, b4.cell]) hdf ?_
       exact ⟨by rw [show pick v wish = v.low by unfold pick clampW; rw [if_pos (by rw [not_f q7]), if_pos (dec_t q15), if_neg (dec_f q21)]], hB⟩
   · skip
     refine wp_cond_false (ev (vb s20 q15)) ?_
     refine wp_skip ?_
     refine th_n ?_
     refine wp_seq ?_
     refine wp_seq ?_
     refine wp_regJ (by kernel_rfl) [33, 34, 35, 36, 37] [some (.agg #[.int .i64 (max (-1000) (min 1000 wish)), .int .i64 1]), some (.pointer (some ⟨w.heap.size, 2, none⟩)), some (.agg #[.int .i64 v.high.n, .int .i64 v.high.d]), some (.int .i64 (ratioCmp ⟨max (-1000) (min 1000 wish), 1⟩ v.high)), some (.bool (decide (ratioCmp ⟨max (-1000) (min 1000 wish), 1⟩ v.high > 0)))] ((List.range 5).map List.range) [33, 34, 35, 36, 37] [0, 1, 2, 3, 4] [] (fun _ _ _ => True) (by kernel_rfl) (by rw [hz]; decide) ?_ (ec ?_ (ec ?_ (ec ?_ (ec ?_ (ec ?_ .nil))))) ?_
     · exact fun _ _ => trivial
     · intro Lk ak ww hL hdd haa hF hK hV hX Nk Qk hN; refine wnt rfl ?_
       simp [go_sem, hF.g rfl s5, (b12.kp hK (by simp)).cell]
       exact (hN _ _ hK rfl trivial)
     · intro Lk ak ww hL hdd haa hF hK hV hX Nk Qk hN; refine wnt rfl ?_
       simp [go_sem, hF.g rfl s2]
       exact (hN _ _ hK rfl trivial)
     · intro Lk ak ww hL hdd haa hF hK hV hX Nk Qk hN; refine wnt rfl ?_
       simp [go_sem, (show ak.tmps[34]?.getD undef = _ from hV 1 _ rfl (hdd 1 rfl)), (b3.kp hK (by simp)).cell]
       exact (hN _ _ hK rfl trivial)
     · intro Lk ak ww hL hdd haa hF hK hV hX Nk Qk hN; refine wnt rfl ?_
       simp [go_sem, (show ak.tmps[33]?.getD undef = _ from hV 0 _ rfl (hdd 0 rfl)), (show ak.tmps[35]?.getD undef = _ from hV 2 _ rfl (hdd 2 rfl))]
       refine (iRatioCmp_c ⟨max (-1000) (min 1000 wish), 1⟩ v.high ww (whIn (by omega)) hv.2).mono ?_
       rintro x wx ⟨rfl, hb⟩
       exact (hN _ _ (hK.call hb) rfl trivial)
     · exact fun Lk ak ww hL hdd haa hF hK hV hX Nk Qk hN => wnt rfl (wp_bin rfl (ev (hV 3 _ rfl (hdd 3 rfl))) rfl rfl rfl (hN _ _ hK rfl trivial))
     intro L a26 w27 hL hF hK hV hX
     replace hz := hF.size.trans hz
     replace hdf := hF.defers.trans hdf
     replace s2 := hF.g rfl s2
     replace s4 := hF.g rfl s4
     replace s5 := hF.g rfl s5
     have s37 : a26.tmps[37]?.getD undef = .bool (decide (ratioCmp ⟨max (-1000) (min 1000 wish), 1⟩ v.high > 0)) := hV 4 _ rfl
     replace b3 := b3.kp hK (by simp)
     replace b4 := b4.kp hK (by simp)
     replace b12 := b12.kp hK (by simp)
     replace hZ := Nat.le_trans hZ hK.size
     replace hB := hK.below0 hB
     clear hF hK hV hL hX s20
     refine th_n ?_
     rcases Bool.eq_false_or_eq_true (decide (ratioCmp ⟨max (-1000) (min 1000 wish), 1⟩ v.high > 0)) with q28 | q28
     · skip
       refine wp_cond_true (ev (vb s37 q28)) ?_
       refine wp_seq ?_
       refine wp_seq ?_
       refine wp_regJ (by kernel_rfl) [38, 39, 40, 41, 7, 0] [some (.pointer (some ⟨w.heap.size, 2, none⟩)), some (.agg #[.int .i64 v.high.n, .int .i64 v.high.d]), some (.int .i64 (ratFloor v.high)), some (.agg #[.int .i64 (ratFloor v.high), .int .i64 1]), none, none] ((List.range 6).map List.range) [38, 39, 40, 41, 7] [0, 1, 2, 3, 4, 5] [] (fun L aa ww => (L 4 = true → BoxX w27 aa ww 7 52 [.int .i64 0, .int .i64 0] (L 5) (fun _ vs => vs = [.int .i64 (ratFloor v.high), .int .i64 1]))) (by kernel_rfl) (by rw [hz]; decide) ?_ (ec ?_ (ec ?_ (ec ?_ (ec ?_ (ec ?_ (ec ?_ .nil)))))) ?_
       · exact fun _ h => (fun h => by cases h)
       · intro Lk ak ww hL hdd haa hF hK hV hX Nk Qk hN; refine wnt rfl ?_
         simp [go_sem, hF.g rfl s2]
         exact (hN _ _ hK rfl (fun h => ((hX h).bel (Below.refl _ _) (fun _ h => h)).put (by decide) _))
       · intro Lk ak ww hL hdd haa hF hK hV hX Nk Qk hN; refine wnt rfl ?_
         simp [go_sem, (show ak.tmps[38]?.getD undef = _ from hV 0 _ rfl (hdd 0 rfl)), (b3.kp hK (by simp)).cell]
         exact (hN _ _ hK rfl (fun h => ((hX h).bel (Below.refl _ _) (fun _ h => h)).put (by decide) _))
       · intro Lk ak ww hL hdd haa hF hK hV hX Nk Qk hN; refine wnt rfl ?_
         simp [go_sem, (show ak.tmps[39]?.getD undef = _ from hV 1 _ rfl (hdd 1 rfl))]
         refine (iRatFloor_c v.high ww hv.2).mono ?_
         rintro x wx ⟨rfl, hb⟩
         exact (hN _ _ (hK.call hb) rfl (fun h => ((hX h).bel hb (fun _ h => h)).put (by decide) _))
       · intro Lk ak ww hL hdd haa hF hK hV hX Nk Qk hN; refine wnt rfl ?_
         simp [go_sem, (show ak.tmps[40]?.getD undef = _ from hV 2 _ rfl (hdd 2 rfl))]
         refine (whole_c (ratFloor v.high) ww).mono ?_
         rintro x wx ⟨rfl, hb⟩
         exact (hN _ _ (hK.call hb) rfl (fun h => ((hX h).bel hb (fun _ h => h)).put (by decide) _))
       · intro Lk ak ww hL hdd haa hF hK hV hX Nk Qk hN
         have x0 := hX
         refine wnt rfl ?_
         simp [go_sem]
         exact hN _ _ (hK.alloc _) trivial (fun _ => by rw [show upd Lk 4 5 = false from haa 5 rfl]; exact BoxX.new (s := 7) (hF.lt (by rw [hz]; decide)) hK.size [.int .i64 0, .int .i64 0])
       · intro Lk ak ww hL hdd haa hF hK hV hX Nk Qk hN
         have x0 := hX
         refine wnt rfl ?_
         obtain ⟨g, eg, hg, y, _⟩ := x0 (hdd 4 rfl)
         have HT := y hL
         simp [go_sem, (show ak.tmps[41]?.getD undef = _ from hV 3 _ rfl (hdd 3 rfl)), eg, HT.cell, HT.frz]
         exact hN undef _ (hK.store (.inl hg) [.int .i64 (ratFloor v.high), .int .i64 1] 0) trivial (fun _ => BoxX.set eg hg HT (us := [.int .i64 (ratFloor v.high), .int .i64 1]) rfl rfl)
       intro L a29 w30 hL hF hK hV hX
       have x0 := hX
       replace hz := hF.size.trans hz
       replace hdf := hF.defers.trans hdf
       replace s2 := hF.g rfl s2
       replace s4 := hF.g rfl s4
       replace b3 := b3.kp hK (by simp)
       replace b4 := b4.kp hK (by simp)
       obtain ⟨g31, s7, lg31, -, b31⟩ := x0 (hL 4 (by decide))
       obtain ⟨_, b31, rfl⟩ := b31 (hL 5 (by decide))
       have ug31 := b31.lt
       have zw27 := hZ
       have zw30 := hK.size
       replace hZ := Nat.le_refl w30.heap.size
       replace hB := hK.below0 hB
       clear hF hK hV hL x0 s5 s37 b12
       refine th_n ?_
       refine wp_seq ?_
       refine wp_regJ (by kernel_rfl) [42, 43, 44, 45, 46] [some (.agg #[.int .i64 (ratFloor v.high), .int .i64 1]), some (.pointer (some ⟨w.heap.size, 0, none⟩)), some (.agg #[.int .i64 v.low.n, .int .i64 v.low.d]), some (.int .i64 (ratioCmp ⟨ratFloor v.high, 1⟩ v.low)), some (.bool (decide (ratioCmp ⟨ratFloor v.high, 1⟩ v.low ≥ 0)))] ((List.range 5).map List.range) [42, 43, 44, 45, 46] [0, 1, 2, 3, 4] [] (fun _ _ _ => True) (by kernel_rfl) (by rw [hz]; decide) ?_ (ec ?_ (ec ?_ (ec ?_ (ec ?_ (ec ?_ .nil))))) ?_
       · exact fun _ _ => trivial
       · intro Lk ak ww hL hdd haa hF hK hV hX Nk Qk hN; refine wnt rfl ?_
         simp [go_sem, hF.g rfl s7, (b31.kp hK (by simp)).cell]
         exact (hN _ _ hK rfl trivial)
       · intro Lk ak ww hL hdd haa hF hK hV hX Nk Qk hN; refine wnt rfl ?_
         simp [go_sem, hF.g rfl s2]
         exact (hN _ _ hK rfl trivial)
       · intro Lk ak ww hL hdd haa hF hK hV hX Nk Qk hN; refine wnt rfl ?_
         simp [go_sem, (show ak.tmps[43]?.getD undef = _ from hV 1 _ rfl (hdd 1 rfl)), (b3.kp hK (by simp)).cell]
         exact (hN _ _ hK rfl trivial)
       · intro Lk ak ww hL hdd haa hF hK hV hX Nk Qk hN; refine wnt rfl ?_
         simp [go_sem, (show ak.tmps[42]?.getD undef = _ from hV 0 _ rfl (hdd 0 rfl)), (show ak.tmps[44]?.getD undef = _ from hV 2 _ rfl (hdd 2 rfl))]
         refine (iRatioCmp_c ⟨ratFloor v.high, 1⟩ v.low ww (whIn (by omega)) hv.1).mono ?_
         rintro x wx ⟨rfl, hb⟩
         exact (hN _ _ (hK.call hb) rfl trivial)
       · exact fun Lk ak ww hL hdd haa hF hK hV hX Nk Qk hN => wnt rfl (wp_bin rfl (ev (hV 3 _ rfl (hdd 3 rfl))) rfl rfl rfl (hN _ _ hK rfl trivial))
       intro L a32 w33 hL hF hK hV hX
       replace hz := hF.size.trans hz
       replace hdf := hF.defers.trans hdf
       replace s2 := hF.g rfl s2
       replace s4 := hF.g rfl s4
       replace s7 := hF.g rfl s7
       have s46 : a32.tmps[46]?.getD undef = .bool (decide (ratioCmp ⟨ratFloor v.high, 1⟩ v.low ≥ 0)) := hV 4 _ rfl
       replace b3 := b3.kp hK (by simp)
       replace b4 := b4.kp hK (by simp)
       replace b31 := b31.kp hK (by simp)
       replace hZ := Nat.le_trans hZ hK.size
       replace hB := hK.below0 hB
       clear hF hK hV hL hX
       refine th_n ?_
       rcases Bool.eq_false_or_eq_true (decide (ratioCmp ⟨ratFloor v.high, 1⟩ v.low ≥ 0)) with q34 | q34
       · skip
         refine wp_cond_true (ev (vb s46 q34)) ?_
         refine wp_seq ?_
         refine wp_regJ (by kernel_rfl) [47, 0] [some (.agg #[.int .i64 (ratFloor v.high), .int .i64 1]), none] ((List.range 2).map List.range) [47] [0, 1] [(w.heap.size + 1)] (fun L aa ww => PreX ww (w.heap.size + 1) 52 [.int .i64 0, .int .i64 0] (L 1) (fun _ vs => vs = [.int .i64 (ratFloor v.high), .int .i64 1])) (by kernel_rfl) (by rw [hz]; decide) ?_ (ec ?_ (ec ?_ .nil)) ?_
         · exact fun _ h => (⟨fun _ => b4.kp h (by simp), (fun h => by cases h)⟩)
         · intro Lk ak ww hL hdd haa hF hK hV hX Nk Qk hN; refine wnt rfl ?_
           simp [go_sem, hF.g rfl s7, (b31.kp hK (by simp <;> omega)).cell]
           exact (hN _ _ hK rfl (hX.bel (Below.refl _ _) (fun _ h => h)))
         · intro Lk ak ww hL hdd haa hF hK hV hX Nk Qk hN
           have x0 := hX
           refine wnt rfl ?_
           have HT := x0.1 hL
           simp [go_sem, (show ak.tmps[47]?.getD undef = _ from hV 0 _ rfl (hdd 0 rfl)), hF.g rfl s4, HT.cell, HT.frz]
           exact hN undef _ (hK.store (.inr (by simp)) [.int .i64 (ratFloor v.high), .int .i64 1] 0) trivial (PreX.set HT (us := [.int .i64 (ratFloor v.high), .int .i64 1]) rfl rfl)
         intro L a35 w36 hL hF hK hV hX
         have x0 := hX
         replace hz := hF.size.trans hz
         replace hdf := hF.defers.trans hdf
         replace s4 := hF.g rfl s4
         clear b4
         obtain ⟨_, b4, rfl⟩ := x0.2 (hL 1 (by decide))
         replace hZ := Nat.le_trans hZ hK.size
         replace hB := hK.below hB hB.size (by simp <;> omega)
         clear hF hK hV hL x0 s2 s7 s46 b3 b31
         refine th_n ?_
         refine wp_ret ?_
         refine th_r (th_r ?_)
         refine bodyPost_ret (v := .agg #[.int .i64 (ratFloor v.high), .int .i64 1]) (by simp [results, Tryz.results181, go_sem, s4, b4.cell]) hdf ?_
         exact ⟨by rw [show pick v wish = ⟨ratFloor v.high, 1⟩ by unfold pick clampW; rw [if_pos (by rw [not_f q7]), if_neg (dec_f q15), if_pos (dec_t q28), if_pos (dec_t q34)]], hB⟩
       · skip
         refine wp_cond_false (ev (vb s46 q34)) ?_
         refine wp_skip ?_
         refine th_n ?_
         refine wp_seq ?_
         refine wp_regJ (by kernel_rfl) [48, 49, 0] [some (.pointer (some ⟨w.heap.size, 2, none⟩)), some (.agg #[.int .i64 v.high.n, .int .i64 v.high.d]), none] ((List.range 3).map List.range) [48, 49] [0, 1, 2] [(w.heap.size + 1)] (fun L aa ww => PreX ww (w.heap.size + 1) 52 [.int .i64 0, .int .i64 0] (L 2) (fun _ vs => vs = [.int .i64 v.high.n, .int .i64 v.high.d])) (by kernel_rfl) (by rw [hz]; decide) ?_ (ec ?_ (ec ?_ (ec ?_ .nil))) ?_
         · exact fun _ h => (⟨fun _ => b4.kp h (by simp), (fun h => by cases h)⟩)
         · intro Lk ak ww hL hdd haa hF hK hV hX Nk Qk hN; refine wnt rfl ?_
           simp [go_sem, hF.g rfl s2]
           exact (hN _ _ hK rfl (hX.bel (Below.refl _ _) (fun _ h => h)))
         · intro Lk ak ww hL hdd haa hF hK hV hX Nk Qk hN; refine wnt rfl ?_
           simp [go_sem, (show ak.tmps[48]?.getD undef = _ from hV 0 _ rfl (hdd 0 rfl)), (b3.kp hK (by simp <;> omega)).cell]
           exact (hN _ _ hK rfl (hX.bel (Below.refl _ _) (fun _ h => h)))
         · intro Lk ak ww hL hdd haa hF hK hV hX Nk Qk hN
           have x0 := hX
           refine wnt rfl ?_
           have HT := x0.1 hL
           simp [go_sem, (show ak.tmps[49]?.getD undef = _ from hV 1 _ rfl (hdd 1 rfl)), hF.g rfl s4, HT.cell, HT.frz]
           exact hN undef _ (hK.store (.inr (by simp)) [.int .i64 v.high.n, .int .i64 v.high.d] 0) trivial (PreX.set HT (us := [.int .i64 v.high.n, .int .i64 v.high.d]) rfl rfl)
         intro L a37 w38 hL hF hK hV hX
         have x0 := hX
         replace hz := hF.size.trans hz
         replace hdf := hF.defers.trans hdf
         replace s4 := hF.g rfl s4
         clear b4
         obtain ⟨_, b4, rfl⟩ := x0.2 (hL 2 (by decide))
         replace hZ := Nat.le_trans hZ hK.size
         replace hB := hK.below hB hB.size (by simp <;> omega)
         clear hF hK hV hL x0 s2 s7 s46 b3 b31
         refine th_n ?_
         refine wp_ret ?_
         refine th_r ?_
         refine bodyPost_ret (v := .agg #[.int .i64 v.high.n, .int .i64 v.high.d]) (by simp [results, Tryz.results181, go_sem, s4, b4.cell]) hdf ?_
         exact ⟨by rw [show pick v wish = v.high by unfold pick clampW; rw [if_pos (by rw [not_f q7]), if_neg (dec_f q15), if_pos (dec_t q28), if_neg (dec_f q34)]], hB⟩
     · skip
       refine wp_cond_false (ev (vb s37 q28)) ?_
       refine wp_skip ?_
       refine th_n ?_
       refine wp_seq ?_
       refine wp_regJ (by kernel_rfl) [50, 0] [some (.agg #[.int .i64 (max (-1000) (min 1000 wish)), .int .i64 1]), none] ((List.range 2).map List.range) [50] [0, 1] [(w.heap.size + 1)] (fun L aa ww => PreX ww (w.heap.size + 1) 52 [.int .i64 0, .int .i64 0] (L 1) (fun _ vs => vs = [.int .i64 (max (-1000) (min 1000 wish)), .int .i64 1])) (by kernel_rfl) (by rw [hz]; decide) ?_ (ec ?_ (ec ?_ .nil)) ?_
       · exact fun _ h => (⟨fun _ => b4.kp h (by simp), (fun h => by cases h)⟩)
       · intro Lk ak ww hL hdd haa hF hK hV hX Nk Qk hN; refine wnt rfl ?_
         simp [go_sem, hF.g rfl s5, (b12.kp hK (by simp <;> omega)).cell]
         exact (hN _ _ hK rfl (hX.bel (Below.refl _ _) (fun _ h => h)))
       · intro Lk ak ww hL hdd haa hF hK hV hX Nk Qk hN
         have x0 := hX
         refine wnt rfl ?_
         have HT := x0.1 hL
         simp [go_sem, (show ak.tmps[50]?.getD undef = _ from hV 0 _ rfl (hdd 0 rfl)), hF.g rfl s4, HT.cell, HT.frz]
         exact hN undef _ (hK.store (.inr (by simp)) [.int .i64 (max (-1000) (min 1000 wish)), .int .i64 1] 0) trivial (PreX.set HT (us := [.int .i64 (max (-1000) (min 1000 wish)), .int .i64 1]) rfl rfl)
       intro L a39 w40 hL hF hK hV hX
       have x0 := hX
       replace hz := hF.size.trans hz
       replace hdf := hF.defers.trans hdf
       replace s4 := hF.g rfl s4
       clear b4
       obtain ⟨_, b4, rfl⟩ := x0.2 (hL 1 (by decide))
       replace hZ := Nat.le_trans hZ hK.size
       replace hB := hK.below hB hB.size (by simp <;> omega)
       clear hF hK hV hL x0 s2 s5 s37 b3 b12
       refine th_n ?_
       refine wp_ret ?_
       refine bodyPost_ret (v := .agg #[.int .i64 (max (-1000) (min 1000 wish)), .int .i64 1]) (by simp [results, Tryz.results181, go_sem, s4, b4.cell]) hdf ?_
       exact ⟨by rw [show pick v wish = ⟨max (-1000) (min 1000 wish), 1⟩ by unfold pick clampW; rw [if_pos (by rw [not_f q7]), if_neg (dec_f q15), if_neg (dec_f q28)]], hB⟩
set_option maxRecDepth 100000 in
set_option maxHeartbeats 3000000 in
theorem sPick_c (v : Span) (wish : Int) (w : World) (hv : v.In) :
    Calls Tryz.prog 111 #[spanV v, .int .i64 wish] w fun x w' => x = .returned (ratioV (pick v wish)) ∧ Below w.heap.size w w' := by
 refine calls_v Tryz.func111 rfl (n := 42) Tryz.ntmps111 (by simp) ?_
 intro a0 hz hdf ha
 have s0 : a0.tmps[0]?.getD undef = spanV v := ha 0 _ rfl
 have s1 : a0.tmps[1]?.getD undef = .int .i64 wish := ha 1 _ rfl
 clear ha
 have hB := Below.refl w.heap.size w
 have hZ := Nat.le_refl w.heap.size
 refine wp_seq ?_
 refine wp_entry [2, 4] [.pointer (some ⟨w.heap.size, 0, none⟩), .pointer (some ⟨(w.heap.size + 1), 0, none⟩)] [some (.cells [.int .i64 v.low.n, .int .i64 v.low.d, .int .i64 v.high.n, .int .i64 v.high.d].toArray 54), some (.cells [.int .i64 0, .int .i64 0].toArray 52)] [0, 1] [2, 4] [0, 1] (by kernel_rfl) (by rw [hz]; decide) (ec ?_ (ec ?_ .nil)) ?_
 · intro a w' hF hs N Q hN; simp [go_sem, hF.g rfl s0]; rw [hs]; exact hN
 · intro a w' hF hs N Q hN; simp [go_sem]; rw [hs]; exact hN
 intro a1 w2 hF hV hb hO
 replace hz := hF.size.trans hz
 replace hdf := hF.defers.trans hdf
 replace s1 := hF.g rfl s1
 have s2 : a1.tmps[2]?.getD undef = .pointer (some ⟨w.heap.size, 0, none⟩) := hV 0 (by decide)
 have s4 : a1.tmps[4]?.getD undef = .pointer (some ⟨(w.heap.size + 1), 0, none⟩) := hV 1 (by decide)
 have b3 : HasT w2 w.heap.size 54 [.int .i64 v.low.n, .int .i64 v.low.d, .int .i64 v.high.n, .int .i64 v.high.d] := hO 0 _ rfl
 have b4 : HasT w2 (w.heap.size + 1) 52 [.int .i64 0, .int .i64 0] := hO 1 _ rfl
 have hG := b4.lt
 replace hB := below_tr hB hb
 have zw2 := Nat.le_trans hZ hb.size
 replace hZ := Nat.le_refl w2.heap.size
 clear hF hV hb hO s0
 refine th_n ?_
 refine wp_seq ?_
 refine wp_seq ?_
 refine wp_regJ (by kernel_rfl) [9, 10, 11] [some (spanV v), some (.bool (spanOk v)), some (.bool (!(spanOk v)))] ((List.range 3).map List.range) [9, 10, 11] [0, 1, 2] [] (fun _ _ _ => True) (by kernel_rfl) (by rw [hz]; decide) ?_ (ec ?_ (ec ?_ (ec ?_ .nil))) ?_
 · exact fun _ _ => trivial
 · intro Lk ak ww hL hdd haa hF hK hV hX Nk Qk hN; refine wnt rfl ?_
   simp [go_sem, hF.g rfl s2, (b3.kp hK (by simp)).cell]
   exact (hN _ _ hK rfl trivial)
 · intro Lk ak ww hL hdd haa hF hK hV hX Nk Qk hN; refine wnt rfl ?_
   simp [go_sem, (show ak.tmps[9]?.getD undef = _ from hV 0 _ rfl (hdd 0 rfl))]
   refine (sSpanOk_c v ww hv).mono ?_
   rintro x wx ⟨rfl, hb⟩
   exact (hN _ _ (hK.call hb) rfl trivial)
 · exact fun Lk ak ww hL hdd haa hF hK hV hX Nk Qk hN => wnt rfl (wp_not rfl (ev (hV 1 _ rfl (hdd 1 rfl))) (hN _ _ hK rfl trivial))
 intro L a5 w6 hL hF hK hV hX
 replace hz := hF.size.trans hz
 replace hdf := hF.defers.trans hdf
 replace s1 := hF.g rfl s1
 replace s2 := hF.g rfl s2
 replace s4 := hF.g rfl s4
 have s11 : a5.tmps[11]?.getD undef = .bool (!(spanOk v)) := hV 2 _ rfl
 replace b3 := b3.kp hK (by simp)
 replace b4 := b4.kp hK (by simp)
 replace hZ := Nat.le_trans hZ hK.size
 replace hB := hK.below0 hB
 clear hF hK hV hL hX
 refine th_n ?_
 rcases Bool.eq_false_or_eq_true (!(spanOk v)) with q7 | q7
 · skip
   refine wp_cond_true (ev (vb s11 q7)) ?_
   refine wp_seq ?_
   refine wp_regJ (by kernel_rfl) [12, 0] [some (.agg #[.int .i64 0, .int .i64 0]), none] ((List.range 2).map List.range) [12] [0, 1] [(w.heap.size + 1)] (fun L aa ww => PreX ww (w.heap.size + 1) 52 [.int .i64 0, .int .i64 0] (L 1) (fun _ vs => vs = [.int .i64 0, .int .i64 0])) (by kernel_rfl) (by rw [hz]; decide) ?_ (ec ?_ (ec ?_ .nil)) ?_
   · exact fun _ h => (⟨fun _ => b4.kp h (by simp), (fun h => by cases h)⟩)
   · intro Lk ak ww hL hdd haa hF hK hV hX Nk Qk hN; refine wnt rfl ?_
     simp [go_sem]
     exact (hN _ _ hK rfl (hX.bel (Below.refl _ _) (fun _ h => h)))
   · intro Lk ak ww hL hdd haa hF hK hV hX Nk Qk hN
     have x0 := hX
     refine wnt rfl ?_
     have HT := x0.1 hL
     simp [go_sem, (show ak.tmps[12]?.getD undef = _ from hV 0 _ rfl (hdd 0 rfl)), hF.g rfl s4, HT.cell, HT.frz]
     exact hN undef _ (hK.store (.inr (by simp)) [.int .i64 0, .int .i64 0] 0) trivial (PreX.set HT (us := [.int .i64 0, .int .i64 0]) rfl rfl)
   intro L a8 w9 hL hF hK hV hX
   have x0 := hX
   replace hz := hF.size.trans hz
   replace hdf := hF.defers.trans hdf
   replace s4 := hF.g rfl s4
   clear b4
   obtain ⟨_, b4, rfl⟩ := x0.2 (hL 1 (by decide))
   replace hZ := Nat.le_trans hZ hK.size
   replace hB := hK.below hB hB.size (by simp <;> omega)
   clear hF hK hV hL x0 s1 s2 s11 b3
   refine th_n ?_
   refine wp_ret ?_
   refine th_r ?_
   refine bodyPost_ret (v := .agg #[.int .i64 0, .int .i64 0]) (by simp [results, Tryz.results111, go_sem, s4, b4.cell]) hdf ?_
   exact ⟨by rw [show pick v wish = ratio0 by unfold pick; rw [if_neg (by rw [not_t q7]; simp)]]; rfl, hB⟩
 · skip
   have cb := ceil_bd (spanOk_r (not_f q7)).1
   have fb := floor_bd (spanOk_r (not_f q7)).2
   refine wp_cond_false (ev (vb s11 q7)) ?_
   refine wp_skip ?_
   refine th_n ?_
   refine wp_seq ?_
   refine wp_regJ (by kernel_rfl) [13, 14, 5] [some (.int .i64 wish), some (.int .i64 (max (-1000) (min wish 1000))), some (.int .i64 (max (-1000) (min wish 1000)))] ((List.range 3).map List.range) [13, 14, 5] [0, 1, 2] [] (fun _ _ _ => True) (by kernel_rfl) (by rw [hz]; decide) ?_ (ec ?_ (ec ?_ (ec ?_ .nil))) ?_
   · exact fun _ _ => trivial
   · exact fun Lk ak ww hL hdd haa hF hK hV hX Nk Qk hN => wnt rfl (wp_move rfl (ev (hF.g rfl s1)) (hN _ _ hK rfl trivial))
   · intro Lk ak ww hL hdd haa hF hK hV hX Nk Qk hN; refine wnt rfl ?_
     simp [go_sem, (show ak.tmps[13]?.getD undef = _ from hV 0 _ rfl (hdd 0 rfl))]
     refine (sClamp_c wish (-1000) 1000 ww).mono ?_
     rintro x wx ⟨rfl, hb⟩
     exact (hN _ _ (hK.call hb) rfl trivial)
   · exact fun Lk ak ww hL hdd haa hF hK hV hX Nk Qk hN => wnt rfl (wp_assign rfl (ev (hV 1 _ rfl (hdd 1 rfl))) (hN _ _ hK rfl trivial))
   intro L a10 w11 hL hF hK hV hX
   replace hz := hF.size.trans hz
   replace hdf := hF.defers.trans hdf
   replace s2 := hF.g rfl s2
   replace s4 := hF.g rfl s4
   have s5 : a10.tmps[5]?.getD undef = .int .i64 (max (-1000) (min wish 1000)) := hV 2 _ rfl
   replace b3 := b3.kp hK (by simp)
   replace b4 := b4.kp hK (by simp)
   replace hZ := Nat.le_trans hZ hK.size
   replace hB := hK.below0 hB
   clear hF hK hV hL hX s1 s11
   refine th_n ?_
   refine wp_seq ?_
   refine wp_regJ (by kernel_rfl) [15, 16, 6, 0] [some (.int .i64 (max (-1000) (min wish 1000))), some (.agg #[.int .i64 (max (-1000) (min wish 1000)), .int .i64 1]), none, none] ((List.range 4).map List.range) [15, 16, 6] [0, 1, 2, 3] [] (fun L aa ww => (L 2 = true → BoxX w11 aa ww 6 52 [.int .i64 0, .int .i64 0] (L 3) (fun _ vs => vs = [.int .i64 (max (-1000) (min wish 1000)), .int .i64 1]))) (by kernel_rfl) (by rw [hz]; decide) ?_ (ec ?_ (ec ?_ (ec ?_ (ec ?_ .nil)))) ?_
   · exact fun _ h => (fun h => by cases h)
   · exact fun Lk ak ww hL hdd haa hF hK hV hX Nk Qk hN => wnt rfl (wp_move rfl (ev (hF.g rfl s5)) (hN _ _ hK rfl (fun h => ((hX h).bel (Below.refl _ _) (fun _ h => h)).put (by decide) _)))
   · intro Lk ak ww hL hdd haa hF hK hV hX Nk Qk hN; refine wnt rfl ?_
     simp [go_sem, (show ak.tmps[15]?.getD undef = _ from hV 0 _ rfl (hdd 0 rfl))]
     refine (sWhole_c (max (-1000) (min wish 1000)) ww (by omega)).mono ?_
     rintro x wx ⟨rfl, hb⟩
     exact (hN _ _ (hK.call hb) rfl (fun h => ((hX h).bel hb (fun _ h => h)).put (by decide) _))
   · intro Lk ak ww hL hdd haa hF hK hV hX Nk Qk hN
     have x0 := hX
     refine wnt rfl ?_
     simp [go_sem]
     exact hN _ _ (hK.alloc _) trivial (fun _ => by rw [show upd Lk 2 3 = false from haa 3 rfl]; exact BoxX.new (s := 6) (hF.lt (by rw [hz]; decide)) hK.size [.int .i64 0, .int .i64 0])
   · intro Lk ak ww hL hdd haa hF hK hV hX Nk Qk hN
     have x0 := hX
     refine wnt rfl ?_
     obtain ⟨g, eg, hg, y, _⟩ := x0 (hdd 2 rfl)
     have HT := y hL
     simp [go_sem, (show ak.tmps[16]?.getD undef = _ from hV 1 _ rfl (hdd 1 rfl)), eg, HT.cell, HT.frz]
     exact hN undef _ (hK.store (.inl hg) [.int .i64 (max (-1000) (min wish 1000)), .int .i64 1] 0) trivial (fun _ => BoxX.set eg hg HT (us := [.int .i64 (max (-1000) (min wish 1000)), .int .i64 1]) rfl rfl)
   intro L a12 w13 hL hF hK hV hX
   have x0 := hX
   replace hz := hF.size.trans hz
   replace hdf := hF.defers.trans hdf
   replace s2 := hF.g rfl s2
   replace s4 := hF.g rfl s4
   replace s5 := hF.g rfl s5
   replace b3 := b3.kp hK (by simp)
   replace b4 := b4.kp hK (by simp)
   obtain ⟨g14, s6, lg14, -, b14⟩ := x0 (hL 2 (by decide))
   obtain ⟨_, b14, rfl⟩ := b14 (hL 3 (by decide))
   have ug14 := b14.lt
   have zw11 := hZ
   have zw13 := hK.size
   replace hZ := Nat.le_refl w13.heap.size
   replace hB := hK.below0 hB
   clear hF hK hV hL x0
   refine th_n ?_
   refine wp_seq ?_
   refine wp_seq ?_
   refine wp_regJ (by kernel_rfl) [17, 18, 19] [some (spanV v), some (.agg #[.int .i64 (max (-1000) (min wish 1000)), .int .i64 1]), some (.bool (inSpan v ⟨max (-1000) (min wish 1000), 1⟩))] ((List.range 3).map List.range) [17, 18, 19] [0, 1, 2] [] (fun _ _ _ => True) (by kernel_rfl) (by rw [hz]; decide) ?_ (ec ?_ (ec ?_ (ec ?_ .nil))) ?_
   · exact fun _ _ => trivial
   · intro Lk ak ww hL hdd haa hF hK hV hX Nk Qk hN; refine wnt rfl ?_
     simp [go_sem, hF.g rfl s2, (b3.kp hK (by simp)).cell]
     exact (hN _ _ hK rfl trivial)
   · intro Lk ak ww hL hdd haa hF hK hV hX Nk Qk hN; refine wnt rfl ?_
     simp [go_sem, hF.g rfl s6, (b14.kp hK (by simp)).cell]
     exact (hN _ _ hK rfl trivial)
   · intro Lk ak ww hL hdd haa hF hK hV hX Nk Qk hN; refine wnt rfl ?_
     simp [go_sem, (show ak.tmps[17]?.getD undef = _ from hV 0 _ rfl (hdd 0 rfl)), (show ak.tmps[18]?.getD undef = _ from hV 1 _ rfl (hdd 1 rfl))]
     refine (sInSpan_c v ⟨max (-1000) (min wish 1000), 1⟩ ww hv (whIn (by omega))).mono ?_
     rintro x wx ⟨rfl, hb⟩
     exact (hN _ _ (hK.call hb) rfl trivial)
   intro L a15 w16 hL hF hK hV hX
   replace hz := hF.size.trans hz
   replace hdf := hF.defers.trans hdf
   replace s2 := hF.g rfl s2
   replace s4 := hF.g rfl s4
   replace s5 := hF.g rfl s5
   replace s6 := hF.g rfl s6
   have s19 : a15.tmps[19]?.getD undef = .bool (inSpan v ⟨max (-1000) (min wish 1000), 1⟩) := hV 2 _ rfl
   replace b3 := b3.kp hK (by simp)
   replace b4 := b4.kp hK (by simp)
   replace b14 := b14.kp hK (by simp)
   replace hZ := Nat.le_trans hZ hK.size
   replace hB := hK.below0 hB
   clear hF hK hV hL hX
   refine th_n ?_
   rcases Bool.eq_false_or_eq_true (inSpan v ⟨max (-1000) (min wish 1000), 1⟩) with q17 | q17
   · skip
     refine wp_cond_true (ev (vb s19 q17)) ?_
     refine wp_seq ?_
     refine wp_regJ (by kernel_rfl) [20, 0] [some (.agg #[.int .i64 (max (-1000) (min wish 1000)), .int .i64 1]), none] ((List.range 2).map List.range) [20] [0, 1] [(w.heap.size + 1)] (fun L aa ww => PreX ww (w.heap.size + 1) 52 [.int .i64 0, .int .i64 0] (L 1) (fun _ vs => vs = [.int .i64 (max (-1000) (min wish 1000)), .int .i64 1])) (by kernel_rfl) (by rw [hz]; decide) ?_ (ec ?_ (ec ?_ .nil)) ?_
     · exact fun _ h => (⟨fun _ => b4.kp h (by simp), (fun h => by cases h)⟩)
     · intro Lk ak ww hL hdd haa hF hK hV hX Nk Qk hN; refine wnt rfl ?_
       simp [go_sem, hF.g rfl s6, (b14.kp hK (by simp <;> omega)).cell]
       exact (hN _ _ hK rfl (hX.bel (Below.refl _ _) (fun _ h => h)))
     · intro Lk ak ww hL hdd haa hF hK hV hX Nk Qk hN
       have x0 := hX
       refine wnt rfl ?_
       have HT := x0.1 hL
       simp [go_sem, (show ak.tmps[20]?.getD undef = _ from hV 0 _ rfl (hdd 0 rfl)), hF.g rfl s4, HT.cell, HT.frz]
       exact hN undef _ (hK.store (.inr (by simp)) [.int .i64 (max (-1000) (min wish 1000)), .int .i64 1] 0) trivial (PreX.set HT (us := [.int .i64 (max (-1000) (min wish 1000)), .int .i64 1]) rfl rfl)
     intro L a18 w19 hL hF hK hV hX
     have x0 := hX
     replace hz := hF.size.trans hz
     replace hdf := hF.defers.trans hdf
     replace s4 := hF.g rfl s4
     clear b4
     obtain ⟨_, b4, rfl⟩ := x0.2 (hL 1 (by decide))
     replace hZ := Nat.le_trans hZ hK.size
     replace hB := hK.below hB hB.size (by simp <;> omega)
     clear hF hK hV hL x0 s2 s5 s6 s19 b3 b14
     refine th_n ?_
     refine wp_ret ?_
     refine th_r ?_
     refine bodyPost_ret (v := .agg #[.int .i64 (max (-1000) (min wish 1000)), .int .i64 1]) (by simp [results, Tryz.results111, go_sem, s4, b4.cell]) hdf ?_
     exact ⟨by rw [pick_in (not_f q7) (by rw [clampS]; exact q17), clampS], hB⟩
   · skip
     refine wp_cond_false (ev (vb s19 q17)) ?_
     refine wp_skip ?_
     refine th_n ?_
     refine wp_seq ?_
     refine wp_regJ (by kernel_rfl) [21, 22, 23, 7] [some (.pointer (some ⟨w.heap.size, 0, none⟩)), some (.agg #[.int .i64 v.low.n, .int .i64 v.low.d]), some (.int .i64 (ratCeil v.low)), some (.int .i64 (ratCeil v.low))] ((List.range 4).map List.range) [21, 22, 23, 7] [0, 1, 2, 3] [] (fun _ _ _ => True) (by kernel_rfl) (by rw [hz]; decide) ?_ (ec ?_ (ec ?_ (ec ?_ (ec ?_ .nil)))) ?_
     · exact fun _ _ => trivial
     · intro Lk ak ww hL hdd haa hF hK hV hX Nk Qk hN; refine wnt rfl ?_
       simp [go_sem, hF.g rfl s2]
       exact (hN _ _ hK rfl trivial)
     · intro Lk ak ww hL hdd haa hF hK hV hX Nk Qk hN; refine wnt rfl ?_
       simp [go_sem, (show ak.tmps[21]?.getD undef = _ from hV 0 _ rfl (hdd 0 rfl)), (b3.kp hK (by simp)).cell]
       exact (hN _ _ hK rfl trivial)
     · intro Lk ak ww hL hdd haa hF hK hV hX Nk Qk hN; refine wnt rfl ?_
       simp [go_sem, (show ak.tmps[22]?.getD undef = _ from hV 1 _ rfl (hdd 1 rfl))]
       refine (sRatCeil_c v.low ww hv.1).mono ?_
       rintro x wx ⟨rfl, hb⟩
       exact (hN _ _ (hK.call hb) rfl trivial)
     · exact fun Lk ak ww hL hdd haa hF hK hV hX Nk Qk hN => wnt rfl (wp_assign rfl (ev (hV 2 _ rfl (hdd 2 rfl))) (hN _ _ hK rfl trivial))
     intro L a20 w21 hL hF hK hV hX
     replace hz := hF.size.trans hz
     replace hdf := hF.defers.trans hdf
     replace s2 := hF.g rfl s2
     replace s4 := hF.g rfl s4
     replace s5 := hF.g rfl s5
     replace s6 := hF.g rfl s6
     have s7 : a20.tmps[7]?.getD undef = .int .i64 (ratCeil v.low) := hV 3 _ rfl
     replace b3 := b3.kp hK (by simp)
     replace b4 := b4.kp hK (by simp)
     replace b14 := b14.kp hK (by simp)
     replace hZ := Nat.le_trans hZ hK.size
     replace hB := hK.below0 hB
     clear hF hK hV hL hX s19
     refine th_n ?_
     refine wp_seq ?_
     refine wp_regJ (by kernel_rfl) [24, 25, 26, 8] [some (.pointer (some ⟨w.heap.size, 2, none⟩)), some (.agg #[.int .i64 v.high.n, .int .i64 v.high.d]), some (.int .i64 (ratFloor v.high)), some (.int .i64 (ratFloor v.high))] ((List.range 4).map List.range) [24, 25, 26, 8] [0, 1, 2, 3] [] (fun _ _ _ => True) (by kernel_rfl) (by rw [hz]; decide) ?_ (ec ?_ (ec ?_ (ec ?_ (ec ?_ .nil)))) ?_
     · exact fun _ _ => trivial
     · intro Lk ak ww hL hdd haa hF hK hV hX Nk Qk hN; refine wnt rfl ?_
       simp [go_sem, hF.g rfl s2]
       exact (hN _ _ hK rfl trivial)
     · intro Lk ak ww hL hdd haa hF hK hV hX Nk Qk hN; refine wnt rfl ?_
       simp [go_sem, (show ak.tmps[24]?.getD undef = _ from hV 0 _ rfl (hdd 0 rfl)), (b3.kp hK (by simp)).cell]
       exact (hN _ _ hK rfl trivial)
     · intro Lk ak ww hL hdd haa hF hK hV hX Nk Qk hN; refine wnt rfl ?_
       simp [go_sem, (show ak.tmps[25]?.getD undef = _ from hV 1 _ rfl (hdd 1 rfl))]
       refine (sRatFloor_c v.high ww hv.2).mono ?_
       rintro x wx ⟨rfl, hb⟩
       exact (hN _ _ (hK.call hb) rfl trivial)
     · exact fun Lk ak ww hL hdd haa hF hK hV hX Nk Qk hN => wnt rfl (wp_assign rfl (ev (hV 2 _ rfl (hdd 2 rfl))) (hN _ _ hK rfl trivial))
     intro L a22 w23 hL hF hK hV hX
     replace hz := hF.size.trans hz
     replace hdf := hF.defers.trans hdf
     replace s2 := hF.g rfl s2
     replace s4 := hF.g rfl s4
     replace s5 := hF.g rfl s5
     replace s6 := hF.g rfl s6
     replace s7 := hF.g rfl s7
     have s8 : a22.tmps[8]?.getD undef = .int .i64 (ratFloor v.high) := hV 3 _ rfl
     replace b3 := b3.kp hK (by simp)
     replace b4 := b4.kp hK (by simp)
     replace b14 := b14.kp hK (by simp)
     replace hZ := Nat.le_trans hZ hK.size
     replace hB := hK.below0 hB
     clear hF hK hV hL hX
     refine th_n ?_
     refine wp_seq ?_
     refine wp_seq ?_
     refine wp_regJ (by kernel_rfl) [27, 28, 29] [some (.int .i64 (ratCeil v.low)), some (.int .i64 (ratFloor v.high)), some (.bool (decide (ratCeil v.low ≤ ratFloor v.high)))] ((List.range 3).map List.range) [27, 28, 29] [0, 1, 2] [] (fun _ _ _ => True) (by kernel_rfl) (by rw [hz]; decide) ?_ (ec ?_ (ec ?_ (ec ?_ .nil))) ?_
     · exact fun _ _ => trivial
     · exact fun Lk ak ww hL hdd haa hF hK hV hX Nk Qk hN => wnt rfl (wp_move rfl (ev (hF.g rfl s7)) (hN _ _ hK rfl trivial))
     · exact fun Lk ak ww hL hdd haa hF hK hV hX Nk Qk hN => wnt rfl (wp_move rfl (ev (hF.g rfl s8)) (hN _ _ hK rfl trivial))
     · exact fun Lk ak ww hL hdd haa hF hK hV hX Nk Qk hN => wnt rfl (wp_bin rfl (ev (hV 0 _ rfl (hdd 0 rfl))) (ev (hV 1 _ rfl (hdd 1 rfl))) rfl rfl (hN _ _ hK rfl trivial))
     intro L a24 w25 hL hF hK hV hX
     replace hz := hF.size.trans hz
     replace hdf := hF.defers.trans hdf
     replace s2 := hF.g rfl s2
     replace s4 := hF.g rfl s4
     replace s5 := hF.g rfl s5
     replace s6 := hF.g rfl s6
     replace s7 := hF.g rfl s7
     replace s8 := hF.g rfl s8
     have s29 : a24.tmps[29]?.getD undef = .bool (decide (ratCeil v.low ≤ ratFloor v.high)) := hV 2 _ rfl
     replace b3 := b3.kp hK (by simp)
     replace b4 := b4.kp hK (by simp)
     replace b14 := b14.kp hK (by simp)
     replace hZ := Nat.le_trans hZ hK.size
     replace hB := hK.below0 hB
     clear hF hK hV hL hX
     refine th_n ?_
     rcases Bool.eq_false_or_eq_true (decide (ratCeil v.low ≤ ratFloor v.high)) with q26 | q26
     · skip
       refine wp_cond_true (ev (vb s29 q26)) ?_
       refine wp_seq ?_
       refine wp_regJ (by kernel_rfl) [30, 31, 32, 33, 34, 0] [some (.int .i64 (max (-1000) (min wish 1000))), some (.int .i64 (ratCeil v.low)), some (.int .i64 (ratFloor v.high)), some (.int .i64 (max (ratCeil v.low) (min (max (-1000) (min wish 1000)) (ratFloor v.high)))), some (.agg #[.int .i64 (max (ratCeil v.low) (min (max (-1000) (min wish 1000)) (ratFloor v.high))), .int .i64 1]), none] ((List.range 6).map List.range) [30, 31, 32, 33, 34] [0, 1, 2, 3, 4, 5] [(w.heap.size + 1)] (fun L aa ww => PreX ww (w.heap.size + 1) 52 [.int .i64 0, .int .i64 0] (L 5) (fun _ vs => vs = [.int .i64 (max (ratCeil v.low) (min (max (-1000) (min wish 1000)) (ratFloor v.high))), .int .i64 1])) (by kernel_rfl) (by rw [hz]; decide) ?_ (ec ?_ (ec ?_ (ec ?_ (ec ?_ (ec ?_ (ec ?_ .nil)))))) ?_
       · exact fun _ h => (⟨fun _ => b4.kp h (by simp), (fun h => by cases h)⟩)
       · exact fun Lk ak ww hL hdd haa hF hK hV hX Nk Qk hN => wnt rfl (wp_move rfl (ev (hF.g rfl s5)) (hN _ _ hK rfl (hX.bel (Below.refl _ _) (fun _ h => h))))
       · exact fun Lk ak ww hL hdd haa hF hK hV hX Nk Qk hN => wnt rfl (wp_move rfl (ev (hF.g rfl s7)) (hN _ _ hK rfl (hX.bel (Below.refl _ _) (fun _ h => h))))
       · exact fun Lk ak ww hL hdd haa hF hK hV hX Nk Qk hN => wnt rfl (wp_move rfl (ev (hF.g rfl s8)) (hN _ _ hK rfl (hX.bel (Below.refl _ _) (fun _ h => h))))
       · intro Lk ak ww hL hdd haa hF hK hV hX Nk Qk hN; refine wnt rfl ?_
         simp [go_sem, (show ak.tmps[30]?.getD undef = _ from hV 0 _ rfl (hdd 0 rfl)), (show ak.tmps[31]?.getD undef = _ from hV 1 _ rfl (hdd 1 rfl)), (show ak.tmps[32]?.getD undef = _ from hV 2 _ rfl (hdd 2 rfl))]
         refine (sClamp_c (max (-1000) (min wish 1000)) (ratCeil v.low) (ratFloor v.high) ww).mono ?_
         rintro x wx ⟨rfl, hb⟩
         exact (hN _ _ (hK.call hb) rfl (hX.bel hb (fun _ h => h)))
       · intro Lk ak ww hL hdd haa hF hK hV hX Nk Qk hN; refine wnt rfl ?_
         simp [go_sem, (show ak.tmps[33]?.getD undef = _ from hV 3 _ rfl (hdd 3 rfl))]
         refine (sWhole_c (max (ratCeil v.low) (min (max (-1000) (min wish 1000)) (ratFloor v.high))) ww (by omega)).mono ?_
         rintro x wx ⟨rfl, hb⟩
         exact (hN _ _ (hK.call hb) rfl (hX.bel hb (fun _ h => h)))
       · intro Lk ak ww hL hdd haa hF hK hV hX Nk Qk hN
         have x0 := hX
         refine wnt rfl ?_
         have HT := x0.1 hL
         simp [go_sem, (show ak.tmps[34]?.getD undef = _ from hV 4 _ rfl (hdd 4 rfl)), hF.g rfl s4, HT.cell, HT.frz]
         exact hN undef _ (hK.store (.inr (by simp)) [.int .i64 (max (ratCeil v.low) (min (max (-1000) (min wish 1000)) (ratFloor v.high))), .int .i64 1] 0) trivial (PreX.set HT (us := [.int .i64 (max (ratCeil v.low) (min (max (-1000) (min wish 1000)) (ratFloor v.high))), .int .i64 1]) rfl rfl)
       intro L a27 w28 hL hF hK hV hX
       have x0 := hX
       replace hz := hF.size.trans hz
       replace hdf := hF.defers.trans hdf
       replace s4 := hF.g rfl s4
       clear b4
       obtain ⟨_, b4, rfl⟩ := x0.2 (hL 5 (by decide))
       replace hZ := Nat.le_trans hZ hK.size
       replace hB := hK.below hB hB.size (by simp <;> omega)
       clear hF hK hV hL x0 s2 s5 s6 s7 s8 s29 b3 b14
       refine th_n ?_
       refine wp_ret ?_
       refine th_r ?_
       refine bodyPost_ret (v := .agg #[.int .i64 (max (ratCeil v.low) (min (max (-1000) (min wish 1000)) (ratFloor v.high))), .int .i64 1]) (by simp [results, Tryz.results111, go_sem, s4, b4.cell]) hdf ?_
       exact ⟨by rw [pick_clamp (not_f q7) (by rw [clampS]; exact q17) (dec_t q26), clampS], hB⟩
     · skip
       refine wp_cond_false (ev (vb s29 q26)) ?_
       refine wp_skip ?_
       refine th_n ?_
       refine wp_seq ?_
       refine wp_regJ (by kernel_rfl) [35, 36, 37, 38, 39, 40, 41, 0] [some (.pointer (some ⟨w.heap.size, 2, none⟩)), some (.agg #[.int .i64 v.high.n, .int .i64 v.high.d]), some (.pointer (some ⟨w.heap.size, 0, none⟩)), some (.agg #[.int .i64 v.low.n, .int .i64 v.low.d]), some (.agg #[.int .i64 (max (-1000) (min wish 1000)), .int .i64 1]), some (ratioV (ratioMax v.low ⟨max (-1000) (min wish 1000), 1⟩)), some (ratioV (ratioMin v.high (ratioMax v.low ⟨max (-1000) (min wish 1000), 1⟩))), none] ([[], [0], [], [2], [], [2, 3, 4], [0, 1, 2, 3, 4, 5], [0, 1, 2, 3, 4, 5, 6]]) [35, 36, 37, 38, 39, 40, 41] [0, 1, 2, 3, 4, 5, 6, 7] [(w.heap.size + 1)] (fun L aa ww => PreX ww (w.heap.size + 1) 52 [.int .i64 0, .int .i64 0] (L 7) (fun _ vs => vs = [.int .i64 ((ratioMin v.high (ratioMax v.low ⟨max (-1000) (min wish 1000), 1⟩)).n), .int .i64 ((ratioMin v.high (ratioMax v.low ⟨max (-1000) (min wish 1000), 1⟩)).d)])) (by kernel_rfl) (by rw [hz]; decide) ?_ (ec ?_ (ec ?_ (ec ?_ (ec ?_ (ec ?_ (ec ?_ (ec ?_ (ec ?_ .nil)))))))) ?_
       · exact fun _ h => (⟨fun _ => b4.kp h (by simp), (fun h => by cases h)⟩)
       · intro Lk ak ww hL hdd haa hF hK hV hX Nk Qk hN; refine wnt rfl ?_
         simp [go_sem, hF.g rfl s2]
         exact (hN _ _ hK rfl (hX.bel (Below.refl _ _) (fun _ h => h)))
       · intro Lk ak ww hL hdd haa hF hK hV hX Nk Qk hN; refine wnt rfl ?_
         simp [go_sem, (show ak.tmps[35]?.getD undef = _ from hV 0 _ rfl (hdd 0 rfl)), (b3.kp hK (by simp <;> omega)).cell]
         exact (hN _ _ hK rfl (hX.bel (Below.refl _ _) (fun _ h => h)))
       · intro Lk ak ww hL hdd haa hF hK hV hX Nk Qk hN; refine wnt rfl ?_
         simp [go_sem, hF.g rfl s2]
         exact (hN _ _ hK rfl (hX.bel (Below.refl _ _) (fun _ h => h)))
       · intro Lk ak ww hL hdd haa hF hK hV hX Nk Qk hN; refine wnt rfl ?_
         simp [go_sem, (show ak.tmps[37]?.getD undef = _ from hV 2 _ rfl (hdd 2 rfl)), (b3.kp hK (by simp <;> omega)).cell]
         exact (hN _ _ hK rfl (hX.bel (Below.refl _ _) (fun _ h => h)))
       · intro Lk ak ww hL hdd haa hF hK hV hX Nk Qk hN; refine wnt rfl ?_
         simp [go_sem, hF.g rfl s6, (b14.kp hK (by simp <;> omega)).cell]
         exact (hN _ _ hK rfl (hX.bel (Below.refl _ _) (fun _ h => h)))
       · intro Lk ak ww hL hdd haa hF hK hV hX Nk Qk hN; refine wnt rfl ?_
         simp [go_sem, (show ak.tmps[38]?.getD undef = _ from hV 3 _ rfl (hdd 3 rfl)), (show ak.tmps[39]?.getD undef = _ from hV 4 _ rfl (hdd 4 rfl))]
         refine (sRatioMax_c v.low ⟨max (-1000) (min wish 1000), 1⟩ ww hv.1 (whIn (by omega))).mono ?_
         rintro x wx ⟨rfl, hb⟩
         exact (hN _ _ (hK.call hb) rfl (hX.bel hb (fun _ h => h)))
       · intro Lk ak ww hL hdd haa hF hK hV hX Nk Qk hN; refine wnt rfl ?_
         simp [go_sem, (show ak.tmps[36]?.getD undef = _ from hV 1 _ rfl (hdd 1 rfl)), (show ak.tmps[40]?.getD undef = _ from hV 5 _ rfl (hdd 5 rfl))]
         refine (sRatioMin_c v.high (ratioMax v.low ⟨max (-1000) (min wish 1000), 1⟩) ww hv.2 (ratioMax_in hv.1 (whIn (by omega)))).mono ?_
         rintro x wx ⟨rfl, hb⟩
         exact (hN _ _ (hK.call hb) rfl (hX.bel hb (fun _ h => h)))
       · intro Lk ak ww hL hdd haa hF hK hV hX Nk Qk hN
         have x0 := hX
         refine wnt rfl ?_
         have HT := x0.1 hL
         simp [go_sem, (show ak.tmps[41]?.getD undef = _ from hV 6 _ rfl (hdd 6 rfl)), hF.g rfl s4, HT.cell, HT.frz]
         exact hN undef _ (hK.store (.inr (by simp)) [.int .i64 ((ratioMin v.high (ratioMax v.low ⟨max (-1000) (min wish 1000), 1⟩)).n), .int .i64 ((ratioMin v.high (ratioMax v.low ⟨max (-1000) (min wish 1000), 1⟩)).d)] 0) trivial (PreX.set HT (us := [.int .i64 ((ratioMin v.high (ratioMax v.low ⟨max (-1000) (min wish 1000), 1⟩)).n), .int .i64 ((ratioMin v.high (ratioMax v.low ⟨max (-1000) (min wish 1000), 1⟩)).d)]) rfl rfl)
       intro L a29 w30 hL hF hK hV hX
       have x0 := hX
       replace hz := hF.size.trans hz
       replace hdf := hF.defers.trans hdf
       replace s4 := hF.g rfl s4
       clear b4
       obtain ⟨_, b4, rfl⟩ := x0.2 (hL 7 (by decide))
       replace hZ := Nat.le_trans hZ hK.size
       replace hB := hK.below hB hB.size (by simp <;> omega)
       clear hF hK hV hL x0 s2 s5 s6 s7 s8 s29 b3 b14
       refine th_n ?_
       refine wp_ret ?_
       refine bodyPost_ret (v := ratioV (ratioMin v.high (ratioMax v.low ⟨max (-1000) (min wish 1000), 1⟩))) (by simp [results, Tryz.results111, go_sem, s4, b4.cell]) hdf ?_
       exact ⟨by rw [pick_mid (not_f q7) (by rw [clampS]; exact q17) (dec_f q26), clampS], hB⟩
end Go.Proofs.YtdncnhcffbgjhaaGreat
