/-
  Whether a region lies in another one: of the reference.
  Conditions: valid regions.
-/
import Derived.Test.YtdncnhcffbgjhaaGreatGrU
import Derived.Test.YtdncnhcffbgjhaaGreatWith
namespace Go.Proofs.YtdncnhcffbgjhaaGreat
open Go.RowKit

theorem getD_el {α : Type} {l : List α} {k : Nat} (h : k < l.length) (d : α) : l.getD k d = l[k] := by rw [List.getD_eq_getElem?_getD, List.getElem?_eq_getElem h, Option.getD_some]
theorem holds_stop {p : List Half} {s : Spot} {k : Nat} (h : k < p.length) (hb : decide (sgn (valS (p.getD k half0) s) > 0) = true) : holdsB p s = false := by
  rw [getD_el h] at hb
  exact holds_no h (of_decide_eq_true hb)
theorem holds_next {p : List Half} {s : Spot} {k : Nat} (h : k < p.length) (h1 : (p.take k).all (holdsH s) = true) (hb : decide (sgn (valS (p.getD k half0) s) > 0) = false) : (p.take (k + 1)).all (holdsH s) = true := by
  rw [getD_el h] at hb
  exact holds_step h h1 (of_decide_eq_false hb)
theorem holds_end {p : List Half} {s : Spot} (h1 : p.all (holdsH s) = true) : holdsB p s = decide ((p.length : Int) > 0) := by
  unfold holdsB
  rw [h1, Bool.and_true]
  by_cases h : p.length = 0
  · rw [decide_eq_true h, decide_eq_false (by omega)]; rfl
  · rw [decide_eq_false h, decide_eq_true (by omega)]; rfl
theorem within_stop {C : List Spot} {q : List Half} {k : Nat} (h : k < C.length) (hb : holdsB q (C.getD k sp0) = false) : C.all (holdsB q) = false := by
  rw [getD_el h] at hb
  exact within_no h hb
theorem within_next {C : List Spot} {q : List Half} {k : Nat} (h : k < C.length) (h1 : (C.take k).all (holdsB q) = true) (hb : holdsB q (C.getD k sp0) = true) : (C.take (k + 1)).all (holdsB q) = true := by
  rw [getD_el h] at hb
  exact within_step h h1 hb
theorem within_void {p q : List Half} (h : p.length = 0) : withinB p q = true := by
  unfold withinB
  have : corners p = [] := List.length_eq_zero_iff.1 (by rw [corners_len]; exact h)
  rw [this]; rfl
theorem getD_mem {α : Type} {l : List α} {k : Nat} (h : k < l.length) (d : α) : l.getD k d ∈ l := by rw [getD_el h]; exact List.getElem_mem h
set_option maxRecDepth 100000 in
set_option maxHeartbeats 3000000 in
theorem sSide_c (h : Half) (s : Spot) (w : World) (hh : halfOk h = true) (hs : spotOk s = true) :
    Calls Tryz.prog 130 #[halfV h, spotV s] w fun x w' => x = .returned (.int .i64 (sgn (valS h s))) ∧ Below w.heap.size w w' := by
 obtain ⟨⟨k1, k2⟩, ⟨k3, k4⟩, ⟨k5, k6⟩⟩ := valS_bd hh hs
 refine calls_v Tryz.func130 rfl (n := 29) Tryz.ntmps130 (by simp) ?_
 intro a0 hz hdf ha
 have s0 : a0.tmps[0]?.getD undef = halfV h := ha 0 _ rfl
 have s1 : a0.tmps[1]?.getD undef = spotV s := ha 1 _ rfl
 clear ha
 have hB := Below.refl w.heap.size w
 have hZ := Nat.le_refl w.heap.size
 refine wp_seq ?_
 refine wp_entry [2, 3, 4] [.pointer (some ⟨w.heap.size, 0, none⟩), .pointer (some ⟨(w.heap.size + 1), 0, none⟩), .int .i64 0] [some (.cells [.int .i64 h.a, .int .i64 h.b, .int .i64 h.c].toArray 111), some (.cells [.int .i64 s.x, .int .i64 s.y, .int .i64 s.d].toArray 57), none] [0, 1, 2] [2, 3, 4] [0, 1, 2] (by kernel_rfl) (by rw [hz]; decide) (ec ?_ (ec ?_ (ec ?_ .nil))) ?_
 · intro a w' hF hs N Q hN; simp [go_sem, hF.g rfl s0]; rw [hs]; exact hN
 · intro a w' hF hs N Q hN; simp [go_sem, hF.g rfl s1]; rw [hs]; exact hN
 · intro a w' hF hs N Q hN; simp [go_sem]; exact hN
 intro a1 w2 hF hV hb hO
 replace hz := hF.size.trans hz
 replace hdf := hF.defers.trans hdf
 have s2 : a1.tmps[2]?.getD undef = .pointer (some ⟨w.heap.size, 0, none⟩) := hV 0 (by decide)
 have s3 : a1.tmps[3]?.getD undef = .pointer (some ⟨(w.heap.size + 1), 0, none⟩) := hV 1 (by decide)
 have b3 : HasT w2 w.heap.size 111 [.int .i64 h.a, .int .i64 h.b, .int .i64 h.c] := hO 0 _ rfl
 have b4 : HasT w2 (w.heap.size + 1) 57 [.int .i64 s.x, .int .i64 s.y, .int .i64 s.d] := hO 1 _ rfl
 have hG := b4.lt
 replace hB := below_tr hB hb
 have zw2 := Nat.le_trans hZ hb.size
 replace hZ := Nat.le_refl w2.heap.size
 clear hF hV hb hO s0 s1
 refine th_n ?_
 refine wp_seq ?_
 refine wp_regJ (by kernel_rfl) [6, 7, 8, 9, 10, 11, 12, 13, 14, 15, 16, 17, 18, 19, 20, 21, 22, 5] [some (.pointer (some ⟨w.heap.size, 0, none⟩)), some (.int .i64 h.a), some (.pointer (some ⟨(w.heap.size + 1), 0, none⟩)), some (.int .i64 s.x), some (.int .i64 (h.a * s.x)), some (.pointer (some ⟨w.heap.size, 1, none⟩)), some (.int .i64 h.b), some (.pointer (some ⟨(w.heap.size + 1), 1, none⟩)), some (.int .i64 s.y), some (.int .i64 (h.b * s.y)), some (.int .i64 ((h.a * s.x) + (h.b * s.y))), some (.pointer (some ⟨w.heap.size, 2, none⟩)), some (.int .i64 h.c), some (.pointer (some ⟨(w.heap.size + 1), 2, none⟩)), some (.int .i64 s.d), some (.int .i64 (h.c * s.d)), some (.int .i64 (((h.a * s.x) + (h.b * s.y)) - (h.c * s.d))), some (.int .i64 (((h.a * s.x) + (h.b * s.y)) - (h.c * s.d)))] ((List.range 18).map List.range) [6, 7, 8, 9, 10, 11, 12, 13, 14, 15, 16, 17, 18, 19, 20, 21, 22, 5] [0, 1, 2, 3, 4, 5, 6, 7, 8, 9, 10, 11, 12, 13, 14, 15, 16, 17] [] (fun _ _ _ => True) (by kernel_rfl) (by rw [hz]; decide) ?_ (ec ?_ (ec ?_ (ec ?_ (ec ?_ (ec ?_ (ec ?_ (ec ?_ (ec ?_ (ec ?_ (ec ?_ (ec ?_ (ec ?_ (ec ?_ (ec ?_ (ec ?_ (ec ?_ (ec ?_ (ec ?_ .nil)))))))))))))))))) ?_
 · exact fun _ _ => trivial
 · intro Lk ak ww hL hdd haa hF hK hV hX _ _ hN; refine wnt rfl ?_
   simp [go_sem, hF.g rfl s2]
   exact (hN _ _ hK rfl trivial)
 · intro Lk ak ww hL hdd haa hF hK hV hX _ _ hN; refine wnt rfl ?_
   simp [go_sem, (gS ak 6 (hV 0 _ rfl (hdd 0 rfl))), (b3.kp hK (by simp)).cell]
   exact (hN _ _ hK rfl trivial)
 · intro Lk ak ww hL hdd haa hF hK hV hX _ _ hN; refine wnt rfl ?_
   simp [go_sem, hF.g rfl s3]
   exact (hN _ _ hK rfl trivial)
 · intro Lk ak ww hL hdd haa hF hK hV hX _ _ hN; refine wnt rfl ?_
   simp [go_sem, (gS ak 8 (hV 2 _ rfl (hdd 2 rfl))), (b4.kp hK (by simp)).cell]
   exact (hN _ _ hK rfl trivial)
 · exact fun Lk ak ww hL hdd haa hF hK hV hX _ _ hN => wnt rfl (wp_mul rfl (ev (hV 1 _ rfl (hdd 1 rfl))) (ev (hV 3 _ rfl (hdd 3 rfl))) (by omega) (hN _ _ hK rfl trivial))
 · intro Lk ak ww hL hdd haa hF hK hV hX _ _ hN; refine wnt rfl ?_
   simp [go_sem, hF.g rfl s2]
   exact (hN _ _ hK rfl trivial)
 · intro Lk ak ww hL hdd haa hF hK hV hX _ _ hN; refine wnt rfl ?_
   simp [go_sem, (gS ak 11 (hV 5 _ rfl (hdd 5 rfl))), (b3.kp hK (by simp)).cell]
   exact (hN _ _ hK rfl trivial)
 · intro Lk ak ww hL hdd haa hF hK hV hX _ _ hN; refine wnt rfl ?_
   simp [go_sem, hF.g rfl s3]
   exact (hN _ _ hK rfl trivial)
 · intro Lk ak ww hL hdd haa hF hK hV hX _ _ hN; refine wnt rfl ?_
   simp [go_sem, (gS ak 13 (hV 7 _ rfl (hdd 7 rfl))), (b4.kp hK (by simp)).cell]
   exact (hN _ _ hK rfl trivial)
 · exact fun Lk ak ww hL hdd haa hF hK hV hX _ _ hN => wnt rfl (wp_mul rfl (ev (hV 6 _ rfl (hdd 6 rfl))) (ev (hV 8 _ rfl (hdd 8 rfl))) (by omega) (hN _ _ hK rfl trivial))
 · exact fun Lk ak ww hL hdd haa hF hK hV hX _ _ hN => wnt rfl (wp_add rfl (ev (hV 4 _ rfl (hdd 4 rfl))) (ev (hV 9 _ rfl (hdd 9 rfl))) (by omega) (hN _ _ hK rfl trivial))
 · intro Lk ak ww hL hdd haa hF hK hV hX _ _ hN; refine wnt rfl ?_
   simp [go_sem, hF.g rfl s2]
   exact (hN _ _ hK rfl trivial)
 · intro Lk ak ww hL hdd haa hF hK hV hX _ _ hN; refine wnt rfl ?_
   simp [go_sem, (gS ak 17 (hV 11 _ rfl (hdd 11 rfl))), (b3.kp hK (by simp)).cell]
   exact (hN _ _ hK rfl trivial)
 · intro Lk ak ww hL hdd haa hF hK hV hX _ _ hN; refine wnt rfl ?_
   simp [go_sem, hF.g rfl s3]
   exact (hN _ _ hK rfl trivial)
 · intro Lk ak ww hL hdd haa hF hK hV hX _ _ hN; refine wnt rfl ?_
   simp [go_sem, (gS ak 19 (hV 13 _ rfl (hdd 13 rfl))), (b4.kp hK (by simp)).cell]
   exact (hN _ _ hK rfl trivial)
 · exact fun Lk ak ww hL hdd haa hF hK hV hX _ _ hN => wnt rfl (wp_mul rfl (ev (hV 12 _ rfl (hdd 12 rfl))) (ev (hV 14 _ rfl (hdd 14 rfl))) (by omega) (hN _ _ hK rfl trivial))
 · exact fun Lk ak ww hL hdd haa hF hK hV hX _ _ hN => wnt rfl (wp_sub rfl (ev (hV 10 _ rfl (hdd 10 rfl))) (ev (hV 15 _ rfl (hdd 15 rfl))) (by omega) (hN _ _ hK rfl trivial))
 · exact fun Lk ak ww hL hdd haa hF hK hV hX _ _ hN => wnt rfl (wp_assign rfl (ev (hV 16 _ rfl (hdd 16 rfl))) (hN _ _ hK rfl trivial))
 intro L a5 w6 hL hF hK hV hX
 replace hz := hF.size.trans hz
 replace hdf := hF.defers.trans hdf
 have s5 : a5.tmps[5]?.getD undef = .int .i64 (((h.a * s.x) + (h.b * s.y)) - (h.c * s.d)) := hV 17 _ rfl
 replace hZ := Nat.le_trans hZ hK.size
 replace hB := hK.below0 hB
 clear hF hK hV hL hX s2 s3 b3 b4
 refine th_n ?_
 refine wp_seq ?_
 refine wp_block ?_
 refine wp_seq ?_
 refine wp_regJ (by kernel_rfl) [24, 25, 23] [some (.int .i64 (((h.a * s.x) + (h.b * s.y)) - (h.c * s.d))), some (.bool (decide (((h.a * s.x) + (h.b * s.y)) - (h.c * s.d) < 0))), some (.bool (decide (((h.a * s.x) + (h.b * s.y)) - (h.c * s.d) < 0)))] ((List.range 3).map List.range) [24, 25, 23] [0, 1, 2] [] (fun _ _ _ => True) (by kernel_rfl) (by rw [hz]; decide) ?_ (ec ?_ (ec ?_ (ec ?_ .nil))) ?_
 · exact fun _ _ => trivial
 · exact fun Lk ak ww hL hdd haa hF hK hV hX _ _ hN => wnt rfl (wp_move rfl (ev (hF.g rfl s5)) (hN _ _ hK rfl trivial))
 · exact fun Lk ak ww hL hdd haa hF hK hV hX _ _ hN => wnt rfl (wp_bin rfl (ev (hV 0 _ rfl (hdd 0 rfl))) rfl rfl rfl (hN _ _ hK rfl trivial))
 · exact fun Lk ak ww hL hdd haa hF hK hV hX _ _ hN => wnt rfl (wp_assign rfl (ev (hV 1 _ rfl (hdd 1 rfl))) (hN _ _ hK rfl trivial))
 intro L a7 w8 hL hF hK hV hX
 replace hz := hF.size.trans hz
 replace hdf := hF.defers.trans hdf
 replace s5 := hF.g rfl s5
 have s23 : a7.tmps[23]?.getD undef = .bool (decide (((h.a * s.x) + (h.b * s.y)) - (h.c * s.d) < 0)) := hV 2 _ rfl
 replace hZ := Nat.le_trans hZ hK.size
 replace hB := hK.below0 hB
 clear hF hK hV hL hX
 refine th_n ?_
 rcases Bool.eq_false_or_eq_true (decide (((h.a * s.x) + (h.b * s.y)) - (h.c * s.d) < 0)) with q9 | q9
 · skip
   refine wp_cond_true (ev (vb s23 q9)) ?_
   refine wp_seq ?_
   refine wp_regJ (by kernel_rfl) [4] [some (.int .i64 (-1))] ((List.range 1).map List.range) [4] [0] [] (fun _ _ _ => True) (by kernel_rfl) (by rw [hz]; decide) ?_ (ec ?_ .nil) ?_
   · exact fun _ _ => trivial
   · exact fun Lk ak ww hL hdd haa hF hK hV hX _ _ hN => wnt rfl (wp_assign rfl rfl (hN _ _ hK rfl trivial))
   intro L a10 w11 hL hF hK hV hX
   replace hz := hF.size.trans hz
   replace hdf := hF.defers.trans hdf
   have s4 : a10.tmps[4]?.getD undef = .int .i64 (-1) := hV 0 _ rfl
   replace hZ := Nat.le_trans hZ hK.size
   replace hB := hK.below0 hB
   clear hF hK hV hL hX s5 s23
   refine th_n ?_
   refine wp_ret ?_
   refine ib_r (th_r ?_)
   refine bodyPost_ret (v := .int .i64 (-1)) (by simp [results, Tryz.results130, go_sem, s4]) hdf ?_
   exact ⟨by rw [show sgn (valS h s) = -1 by unfold sgn valS; rw [if_pos (dec_t q9)]], hB⟩
 · skip
   refine wp_cond_false (ev (vb s23 q9)) ?_
   refine wp_seq ?_
   refine wp_regJ (by kernel_rfl) [27, 28, 26] [some (.int .i64 (((h.a * s.x) + (h.b * s.y)) - (h.c * s.d))), some (.bool (decide (((h.a * s.x) + (h.b * s.y)) - (h.c * s.d) > 0))), some (.bool (decide (((h.a * s.x) + (h.b * s.y)) - (h.c * s.d) > 0)))] ((List.range 3).map List.range) [27, 28, 26] [0, 1, 2] [] (fun _ _ _ => True) (by kernel_rfl) (by rw [hz]; decide) ?_ (ec ?_ (ec ?_ (ec ?_ .nil))) ?_
   · exact fun _ _ => trivial
   · exact fun Lk ak ww hL hdd haa hF hK hV hX _ _ hN => wnt rfl (wp_move rfl (ev (hF.g rfl s5)) (hN _ _ hK rfl trivial))
   · exact fun Lk ak ww hL hdd haa hF hK hV hX _ _ hN => wnt rfl (wp_bin rfl (ev (hV 0 _ rfl (hdd 0 rfl))) rfl rfl rfl (hN _ _ hK rfl trivial))
   · exact fun Lk ak ww hL hdd haa hF hK hV hX _ _ hN => wnt rfl (wp_assign rfl (ev (hV 1 _ rfl (hdd 1 rfl))) (hN _ _ hK rfl trivial))
   intro L a12 w13 hL hF hK hV hX
   replace hz := hF.size.trans hz
   replace hdf := hF.defers.trans hdf
   have s26 : a12.tmps[26]?.getD undef = .bool (decide (((h.a * s.x) + (h.b * s.y)) - (h.c * s.d) > 0)) := hV 2 _ rfl
   replace hZ := Nat.le_trans hZ hK.size
   replace hB := hK.below0 hB
   clear hF hK hV hL hX s5 s23
   refine th_n ?_
   rcases Bool.eq_false_or_eq_true (decide (((h.a * s.x) + (h.b * s.y)) - (h.c * s.d) > 0)) with q14 | q14
   · skip
     refine wp_cond_true (ev (vb s26 q14)) ?_
     refine wp_seq ?_
     refine wp_regJ (by kernel_rfl) [4] [some (.int .i64 1)] ((List.range 1).map List.range) [4] [0] [] (fun _ _ _ => True) (by kernel_rfl) (by rw [hz]; decide) ?_ (ec ?_ .nil) ?_
     · exact fun _ _ => trivial
     · exact fun Lk ak ww hL hdd haa hF hK hV hX _ _ hN => wnt rfl (wp_assign rfl rfl (hN _ _ hK rfl trivial))
     intro L a15 w16 hL hF hK hV hX
     replace hz := hF.size.trans hz
     replace hdf := hF.defers.trans hdf
     have s4 : a15.tmps[4]?.getD undef = .int .i64 1 := hV 0 _ rfl
     replace hZ := Nat.le_trans hZ hK.size
     replace hB := hK.below0 hB
     clear hF hK hV hL hX s26
     refine th_n ?_
     refine wp_ret ?_
     refine ib_r (th_r ?_)
     refine bodyPost_ret (v := .int .i64 1) (by simp [results, Tryz.results130, go_sem, s4]) hdf ?_
     exact ⟨by rw [show sgn (valS h s) = 1 by unfold sgn valS; rw [if_neg (dec_f q9), if_pos (dec_t q14)]], hB⟩
   · skip
     refine wp_cond_false (ev (vb s26 q14)) ?_
     refine wp_skip ?_
     refine ib_n (th_n ?_)
     refine wp_seq ?_
     refine wp_regJ (by kernel_rfl) [4] [some (.int .i64 0)] ((List.range 1).map List.range) [4] [0] [] (fun _ _ _ => True) (by kernel_rfl) (by rw [hz]; decide) ?_ (ec ?_ .nil) ?_
     · exact fun _ _ => trivial
     · exact fun Lk ak ww hL hdd haa hF hK hV hX _ _ hN => wnt rfl (wp_assign rfl rfl (hN _ _ hK rfl trivial))
     intro L a17 w18 hL hF hK hV hX
     replace hz := hF.size.trans hz
     replace hdf := hF.defers.trans hdf
     have s4 : a17.tmps[4]?.getD undef = .int .i64 0 := hV 0 _ rfl
     replace hZ := Nat.le_trans hZ hK.size
     replace hB := hK.below0 hB
     clear hF hK hV hL hX s26
     refine th_n ?_
     refine wp_ret ?_
     refine bodyPost_ret (v := .int .i64 0) (by simp [results, Tryz.results130, go_sem, s4]) hdf ?_
     exact ⟨by rw [show sgn (valS h s) = 0 by unfold sgn valS; rw [if_neg (dec_f q9), if_neg (dec_f q14)]], hB⟩
set_option maxRecDepth 100000 in
set_option maxHeartbeats 3000000 in
theorem sHas_c (p : List Half) (a : SlA) (s : Spot) (w : World) (hl : p.length ≤ 1000000) (hok : ∀ h ∈ p, halfOk h = true) (hs : spotOk s = true) (hsl : Sl 3 halfC w a.A p) :
    Calls Tryz.prog 220 #[.agg #[.slice a.A p.length a.c], spotV s] w fun x w' => x = .returned (.bool (holdsB p s)) ∧ Below w.heap.size w w' := by
 refine calls_v Tryz.func220 rfl (n := 23) Tryz.ntmps220 (by simp) ?_
 intro a0 hz hdf ha
 have s0 : a0.tmps[0]?.getD undef = .agg #[.slice a.A p.length a.c] := ha 0 _ rfl
 have s1 : a0.tmps[1]?.getD undef = spotV s := ha 1 _ rfl
 clear ha
 have hB := Below.refl w.heap.size w
 have hZ := Nat.le_refl w.heap.size
 refine wp_seq ?_
 refine wp_entry [2, 3, 4] [.pointer (some ⟨w.heap.size, 0, none⟩), .pointer (some ⟨(w.heap.size + 1), 0, none⟩), .bool false] [some (.cells [.slice a.A p.length a.c].toArray 37), some (.cells [.int .i64 s.x, .int .i64 s.y, .int .i64 s.d].toArray 57), none] [0, 1, 2] [2, 3, 4] [0, 1, 2] (by kernel_rfl) (by rw [hz]; decide) (ec ?_ (ec ?_ (ec ?_ .nil))) ?_
 · intro a w' hF hs N Q hN; simp [go_sem, hF.g rfl s0]; rw [hs]; exact hN
 · intro a w' hF hs N Q hN; simp [go_sem, hF.g rfl s1]; rw [hs]; exact hN
 · intro a w' hF hs N Q hN; simp [go_sem]; exact hN
 intro a1 w2 hF hV hb hO
 replace hz := hF.size.trans hz
 replace hdf := hF.defers.trans hdf
 have s2 : a1.tmps[2]?.getD undef = .pointer (some ⟨w.heap.size, 0, none⟩) := hV 0 (by decide)
 have s3 : a1.tmps[3]?.getD undef = .pointer (some ⟨(w.heap.size + 1), 0, none⟩) := hV 1 (by decide)
 have b3 : HasT w2 w.heap.size 37 [.slice a.A p.length a.c] := hO 0 _ rfl
 have b4 : HasT w2 (w.heap.size + 1) 57 [.int .i64 s.x, .int .i64 s.y, .int .i64 s.d] := hO 1 _ rfl
 have hG := b4.lt
 replace hB := below_tr hB hb
 have zw2 := Nat.le_trans hZ hb.size
 replace hZ := Nat.le_refl w2.heap.size
 clear hF hV hb hO s0 s1
 refine th_n ?_
 refine wp_seq ?_
 refine wp_seq ?_
 refine wp_regJ (by kernel_rfl) [7, 8, 9, 10] [some (.pointer (some ⟨w.heap.size, 0, none⟩)), some (.slice a.A p.length a.c), some (.int .i64 (p.length : Int)), some (.int .i64 0)] ((List.range 4).map List.range) [7, 8, 9, 10] [0, 1, 2, 3] [] (fun _ _ _ => True) (by kernel_rfl) (by rw [hz]; decide) ?_ (ec ?_ (ec ?_ (ec ?_ (ec ?_ .nil)))) ?_
 · exact fun _ _ => trivial
 · intro Lk ak ww hL hdd haa hF hK hV hX _ _ hN; refine wnt rfl ?_
   simp [go_sem, hF.g rfl s2]
   exact (hN _ _ hK rfl trivial)
 · intro Lk ak ww hL hdd haa hF hK hV hX _ _ hN; refine wnt rfl ?_
   simp [go_sem, (gS ak 7 (hV 0 _ rfl (hdd 0 rfl))), (b3.kp hK (by simp)).cell]
   exact (hN _ _ hK rfl trivial)
 · intro Lk ak ww hL hdd haa hF hK hV hX _ _ hN; refine wnt rfl ?_
   simp [go_sem, (gS ak 8 (hV 1 _ rfl (hdd 1 rfl)))]
   exact (hN _ _ hK rfl trivial)
 · exact fun Lk ak ww hL hdd haa hF hK hV hX _ _ hN => wnt rfl (wp_move rfl rfl (hN _ _ hK rfl trivial))
 intro L a5 w6 hL hF hK hV hX
 replace hz := hF.size.trans hz
 replace hdf := hF.defers.trans hdf
 replace s2 := hF.g rfl s2
 replace s3 := hF.g rfl s3
 have s8 : a5.tmps[8]?.getD undef = .slice a.A p.length a.c := hV 1 _ rfl
 have s9 : a5.tmps[9]?.getD undef = .int .i64 (p.length : Int) := hV 2 _ rfl
 have s10 : a5.tmps[10]?.getD undef = .int .i64 0 := hV 3 _ rfl
 replace b3 := b3.kp hK (by simp)
 replace b4 := b4.kp hK (by simp)
 replace hZ := Nat.le_trans hZ hK.size
 replace hB := hK.below0 hB
 clear hF hK hV hL hX
 refine th_n ?_
 refine wp_block ?_
 refine wp_loop (fun al wl => al.tmps.size = 23 ∧ al.defers = [] ∧ ∃ (k : Nat), (k ≤ p.length) ∧ ((p.take k).all (holdsH s) = true) ∧ al.tmps[2]?.getD undef = .pointer (some ⟨w.heap.size, 0, none⟩) ∧ al.tmps[3]?.getD undef = .pointer (some ⟨(w.heap.size + 1), 0, none⟩) ∧ al.tmps[8]?.getD undef = .slice a.A p.length a.c ∧ al.tmps[9]?.getD undef = .int .i64 (p.length : Int) ∧ al.tmps[10]?.getD undef = .int .i64 (k : Int) ∧ HasT wl w.heap.size 37 [.slice a.A p.length a.c] ∧ HasT wl (w.heap.size + 1) 57 [.int .i64 s.x, .int .i64 s.y, .int .i64 s.d] ∧ Below w.heap.size w wl ∧ w2.heap.size ≤ wl.heap.size) (fun al _ => (p.length - (intOf (al.tmps[10]?.getD undef)).toNat)) ?_ ?_
 · exact ⟨hz, hdf, (0), (Nat.zero_le _), (rfl), s2, s3, s8, s9, s10, b3, b4, hB, (by omega)⟩
 clear hz hdf hB hZ s2 s3 s8 s9 s10 b3 b4
 rintro a7 w8 ⟨hz, hdf, k, hk, hall, s2, s3, s8, s9, s10, b3, b4, hB, hZ⟩
 have zw8 := hZ
 replace hZ := Nat.le_refl w8.heap.size
 have hmu : (p.length - (intOf (a7.tmps[10]?.getD undef)).toNat) = (p.length - (intOf ((.int .i64 (k : Int)))).toNat) := by rw [s10]
 refine wp_seq ?_
 refine wp_regJ (by kernel_rfl) [11] [some (.bool (decide ((k : Int) < (p.length : Int))))] ((List.range 1).map List.range) [11] [0] [] (fun _ _ _ => True) (by kernel_rfl) (by rw [hz]; decide) ?_ (ec ?_ .nil) ?_
 · exact fun _ _ => trivial
 · exact fun Lk ak ww hL hdd haa hF hK hV hX _ _ hN => wnt rfl (wp_bin rfl (ev (hF.g rfl s10)) (ev (hF.g rfl s9)) rfl rfl (hN _ _ hK rfl trivial))
 intro L a9 w10 hL hF hK hV hX
 replace hz := hF.size.trans hz
 replace hdf := hF.defers.trans hdf
 replace s2 := hF.g rfl s2
 replace s3 := hF.g rfl s3
 replace s8 := hF.g rfl s8
 replace s9 := hF.g rfl s9
 replace s10 := hF.g rfl s10
 have s11 : a9.tmps[11]?.getD undef = .bool (decide ((k : Int) < (p.length : Int))) := hV 0 _ rfl
 replace b3 := b3.kp hK (by simp)
 replace b4 := b4.kp hK (by simp)
 replace hZ := Nat.le_trans hZ hK.size
 replace hB := hK.below0 hB
 clear hF hK hV hL hX
 refine th_n ?_
 refine wp_seq ?_
 rcases Bool.eq_false_or_eq_true (decide ((k : Int) < (p.length : Int))) with q11 | q11
 · skip
   have hkl : k < p.length := by have := dec_t q11; omega
   obtain ⟨bp, op, ep, fp⟩ := ElS.open_ (hsl.below hB) (by omega)
   refine wp_cond_true (ev (vb s11 q11)) ?_
   refine wp_skip ?_
   refine th_n ?_
   refine wp_seq ?_
   refine wp_block ?_
   refine wp_seq ?_
   refine wp_regJ (by kernel_rfl) [12, 13, 6, 0] [some (.pointer (some ⟨bp, op + k * 3, none⟩)), some (halfV (p.getD k half0)), none, none] ((List.range 4).map List.range) [12, 13, 6] [0, 1, 2, 3] [] (fun L aa ww => (L 2 = true → BoxX w10 aa ww 6 111 [.int .i64 0, .int .i64 0, .int .i64 0] (L 3) (fun _ vs => vs = [.int .i64 ((p.getD k half0).a), .int .i64 ((p.getD k half0).b), .int .i64 ((p.getD k half0).c)]))) (by kernel_rfl) (by rw [hz]; decide) ?_ (ec ?_ (ec ?_ (ec ?_ (ec ?_ .nil)))) ?_
   · exact fun _ h => (fun h => by cases h)
   · intro Lk ak ww hL hdd haa hF hK hV hX _ _ hN; refine wnt rfl ?_
     simp [go_sem, hF.g rfl s8, hF.g rfl s10, hkl, ep]
     exact (hN _ _ hK rfl (fun h => ((hX h).bel bR (fun _ h => h)).put (by decide) _))
   · intro Lk ak ww hL hdd haa hF hK hV hX _ _ hN; refine wnt rfl ?_
     have hE := fp.kp hK (by simp)
     simp [go_sem, (gS ak 12 (hV 0 _ rfl (hdd 0 rfl))), (hE.at_ half0 (i := k) (by omega) 0 (p := op + k * 3) (by omega) rfl), (hE.at_ half0 (i := k) (by omega) 1 (p := op + k * 3 + 1) (by omega) rfl), (hE.at_ half0 (i := k) (by omega) 2 (p := op + k * 3 + 2) (by omega) rfl)]
     exact (hN _ _ hK rfl (fun h => ((hX h).bel bR (fun _ h => h)).put (by decide) _))
   · intro Lk ak ww hL hdd haa hF hK hV hX _ _ hN
     have x0 := hX
     refine wnt rfl ?_
     simp [go_sem]
     exact hN _ _ (hK.alloc _) trivial (fun _ => by rw [show upd Lk 2 3 = false from haa 3 rfl]; exact BoxX.new (s := 6) (hF.lt (by rw [hz]; decide)) hK.size [.int .i64 0, .int .i64 0, .int .i64 0])
   · intro Lk ak ww hL hdd haa hF hK hV hX _ _ hN
     have x0 := hX
     refine wnt rfl ?_
     obtain ⟨g, eg, hg, y, _⟩ := x0 (hdd 2 rfl)
     have HT := y hL
     simp [go_sem, (gS ak 13 (hV 1 _ rfl (hdd 1 rfl))), eg, HT.cell, HT.frz]
     exact hN undef _ (hK.store (.inl hg) [.int .i64 ((p.getD k half0).a), .int .i64 ((p.getD k half0).b), .int .i64 ((p.getD k half0).c)] 0) trivial (fun _ => BoxX.set eg hg HT (us := [.int .i64 ((p.getD k half0).a), .int .i64 ((p.getD k half0).b), .int .i64 ((p.getD k half0).c)]) rfl rfl)
   intro L a12 w13 hL hF hK hV hX
   have x0 := hX
   replace hz := hF.size.trans hz
   replace hdf := hF.defers.trans hdf
   replace s2 := hF.g rfl s2
   replace s3 := hF.g rfl s3
   replace s8 := hF.g rfl s8
   replace s9 := hF.g rfl s9
   replace s10 := hF.g rfl s10
   replace b3 := b3.kp hK (by simp)
   replace b4 := b4.kp hK (by simp)
   obtain ⟨g14, s6, lg14, -, b14⟩ := x0 (hL 2 (by decide))
   obtain ⟨_, b14, rfl⟩ := b14 (hL 3 (by decide))
   have ug14 := b14.lt
   have zw10 := hZ
   have zw13 := hK.size
   replace hZ := Nat.le_refl w13.heap.size
   replace hB := hK.below0 hB
   clear hF hK hV hL x0 s11 fp
   refine th_n ?_
   refine wp_seq ?_
   refine wp_regJ (by kernel_rfl) [14, 15, 16, 17] [some (halfV (p.getD k half0)), some (spotV s), some (.int .i64 (sgn (valS (p.getD k half0) s))), some (.bool (decide (sgn (valS (p.getD k half0) s) > 0)))] ((List.range 4).map List.range) [14, 15, 16, 17] [0, 1, 2, 3] [] (fun _ _ _ => True) (by kernel_rfl) (by rw [hz]; decide) ?_ (ec ?_ (ec ?_ (ec ?_ (ec ?_ .nil)))) ?_
   · exact fun _ _ => trivial
   · intro Lk ak ww hL hdd haa hF hK hV hX _ _ hN; refine wnt rfl ?_
     simp [go_sem, hF.g rfl s6, (b14.kp hK (by simp)).cell]
     exact (hN _ _ hK rfl trivial)
   · intro Lk ak ww hL hdd haa hF hK hV hX _ _ hN; refine wnt rfl ?_
     simp [go_sem, hF.g rfl s3, (b4.kp hK (by simp)).cell]
     exact (hN _ _ hK rfl trivial)
   · intro Lk ak ww hL hdd haa hF hK hV hX _ _ hN; refine wnt rfl ?_
     simp [go_sem, (gS ak 14 (hV 0 _ rfl (hdd 0 rfl))), (gS ak 15 (hV 1 _ rfl (hdd 1 rfl)))]
     refine (sSide_c (p.getD k half0) s ww (hok _ (getD_mem hkl half0)) hs).mono ?_
     rintro x wx ⟨rfl, hb⟩
     exact (hN _ _ (hK.call hb) rfl trivial)
   · exact fun Lk ak ww hL hdd haa hF hK hV hX _ _ hN => wnt rfl (wp_bin rfl (ev (hV 2 _ rfl (hdd 2 rfl))) rfl rfl rfl (hN _ _ hK rfl trivial))
   intro L a15 w16 hL hF hK hV hX
   replace hz := hF.size.trans hz
   replace hdf := hF.defers.trans hdf
   replace s2 := hF.g rfl s2
   replace s3 := hF.g rfl s3
   replace s8 := hF.g rfl s8
   replace s9 := hF.g rfl s9
   replace s10 := hF.g rfl s10
   have s17 : a15.tmps[17]?.getD undef = .bool (decide (sgn (valS (p.getD k half0) s) > 0)) := hV 3 _ rfl
   replace b3 := b3.kp hK (by simp)
   replace b4 := b4.kp hK (by simp)
   replace hZ := Nat.le_trans hZ hK.size
   replace hB := hK.below0 hB
   clear hF hK hV hL hX s6 b14
   refine th_n ?_
   rcases Bool.eq_false_or_eq_true (decide (sgn (valS (p.getD k half0) s) > 0)) with q17 | q17
   · skip
     refine wp_cond_true (ev (vb s17 q17)) ?_
     refine wp_seq ?_
     refine wp_regJ (by kernel_rfl) [4] [some (.bool false)] ((List.range 1).map List.range) [4] [0] [] (fun _ _ _ => True) (by kernel_rfl) (by rw [hz]; decide) ?_ (ec ?_ .nil) ?_
     · exact fun _ _ => trivial
     · exact fun Lk ak ww hL hdd haa hF hK hV hX _ _ hN => wnt rfl (wp_assign rfl rfl (hN _ _ hK rfl trivial))
     intro L a18 w19 hL hF hK hV hX
     replace hz := hF.size.trans hz
     replace hdf := hF.defers.trans hdf
     have s4 : a18.tmps[4]?.getD undef = .bool false := hV 0 _ rfl
     replace hZ := Nat.le_trans hZ hK.size
     replace hB := hK.below0 hB
     clear hF hK hV hL hX s2 s3 s8 s9 s10 s17 b3 b4
     refine th_n ?_
     refine wp_ret ?_
     refine ib_r (th_r (th_r (ib_r (th_r ?_))))
     refine bodyPost_ret (v := .bool false) (by simp [results, Tryz.results220, go_sem, s4]) hdf ?_
     exact ⟨by rw [holds_stop hkl q17], hB⟩
   · skip
     refine wp_cond_false (ev (vb s17 q17)) ?_
     refine wp_skip ?_
     refine ib_n (th_n ?_)
     refine wp_regJ (by kernel_rfl) [18, 10] [some (.int .i64 ((k : Int) + 1)), some (.int .i64 ((k : Int) + 1))] ((List.range 2).map List.range) [18, 10] [0, 1] [] (fun L aa ww => (L 1 = false → aa.tmps[10]?.getD undef = .int .i64 (k : Int))) (by kernel_rfl) (by rw [hz]; decide) ?_ (ec ?_ (ec ?_ .nil)) ?_
     · exact fun _ h => (fun _ => s10)
     · intro Lk ak ww hL hdd haa hF hK hV hX _ _ hN
       have x0 := hX
       refine wnt rfl ?_
       exact wp_add rfl (ev (x0 (haa 1 rfl))) rfl (by omega) (hN _ _ hK rfl (fun h => (put_ne' (by decide) _).trans (x0 h)))
     · intro Lk ak ww hL hdd haa hF hK hV hX _ _ hN
       have x0 := hX
       refine wnt rfl ?_
       exact wp_move rfl (ev (hV 0 _ rfl (hdd 0 rfl))) (hN _ _ hK rfl (fun h => by simp [upd] at h))
     intro L a20 w21 hL hF hK hV hX
     have x0 := hX
     replace hz := hF.size.trans hz
     replace hdf := hF.defers.trans hdf
     replace s2 := hF.g rfl s2
     replace s3 := hF.g rfl s3
     replace s8 := hF.g rfl s8
     replace s9 := hF.g rfl s9
     have s10 : a20.tmps[10]?.getD undef = .int .i64 ((k : Int) + 1) := hV 1 _ rfl
     replace b3 := b3.kp hK (by simp)
     replace b4 := b4.kp hK (by simp)
     replace hZ := Nat.le_trans hZ hK.size
     replace hB := hK.below0 hB
     clear hF hK hV hL x0 s17
     refine th_n ?_
     refine ⟨?_, ?_⟩
     · exact ⟨hz, hdf, (k + 1), (by omega), (holds_next hkl hall q17), s2, s3, s8, s9, s10, b3, b4, hB, (by omega)⟩
     · show (p.length - (intOf (a20.tmps[10]?.getD undef)).toNat) < _
       rw [s10, hmu]; simp only [intOf]; omega
 · skip
   have ek : k = p.length := by have := dec_f q11; omega
   rw [ek, List.take_length] at hall
   refine wp_cond_false (ev (vb s11 q11)) ?_
   refine wp_exit ?_
   refine th_e (th_e (ib_x (th_n ?_)))
   refine wp_seq ?_
   refine wp_regJ (by kernel_rfl) [19, 20, 21, 22, 4] [some (.pointer (some ⟨w.heap.size, 0, none⟩)), some (.slice a.A p.length a.c), some (.int .i64 (p.length : Int)), some (.bool (decide ((p.length : Int) > 0))), some (.bool (decide ((p.length : Int) > 0)))] ((List.range 5).map List.range) [19, 20, 21, 22, 4] [0, 1, 2, 3, 4] [] (fun _ _ _ => True) (by kernel_rfl) (by rw [hz]; decide) ?_ (ec ?_ (ec ?_ (ec ?_ (ec ?_ (ec ?_ .nil))))) ?_
   · exact fun _ _ => trivial
   · intro Lk ak ww hL hdd haa hF hK hV hX _ _ hN; refine wnt rfl ?_
     simp [go_sem, hF.g rfl s2]
     exact (hN _ _ hK rfl trivial)
   · intro Lk ak ww hL hdd haa hF hK hV hX _ _ hN; refine wnt rfl ?_
     simp [go_sem, (gS ak 19 (hV 0 _ rfl (hdd 0 rfl))), (b3.kp hK (by simp)).cell]
     exact (hN _ _ hK rfl trivial)
   · intro Lk ak ww hL hdd haa hF hK hV hX _ _ hN; refine wnt rfl ?_
     simp [go_sem, (gS ak 20 (hV 1 _ rfl (hdd 1 rfl)))]
     exact (hN _ _ hK rfl trivial)
   · exact fun Lk ak ww hL hdd haa hF hK hV hX _ _ hN => wnt rfl (wp_bin rfl (ev (hV 2 _ rfl (hdd 2 rfl))) rfl rfl rfl (hN _ _ hK rfl trivial))
   · exact fun Lk ak ww hL hdd haa hF hK hV hX _ _ hN => wnt rfl (wp_assign rfl (ev (hV 3 _ rfl (hdd 3 rfl))) (hN _ _ hK rfl trivial))
   intro L a22 w23 hL hF hK hV hX
   replace hz := hF.size.trans hz
   replace hdf := hF.defers.trans hdf
   have s4 : a22.tmps[4]?.getD undef = .bool (decide ((p.length : Int) > 0)) := hV 4 _ rfl
   replace hZ := Nat.le_trans hZ hK.size
   replace hB := hK.below0 hB
   clear hF hK hV hL hX s2 s3 s8 s9 s10 s11 b3 b4
   refine th_n ?_
   refine wp_ret ?_
   refine bodyPost_ret (v := .bool (decide ((p.length : Int) > 0))) (by simp [results, Tryz.results220, go_sem, s4]) hdf ?_
   exact ⟨by rw [holds_end hall], hB⟩
set_option maxRecDepth 100000 in
set_option maxHeartbeats 3000000 in
theorem sWithinL_c (p q : List Half) (a b : SlA) (w : World) (hp : regionOk p = true) (hq : regionOk q = true) (hsp : Sl 3 halfC w a.A p) (hsq : Sl 3 halfC w b.A q) :
    Calls Tryz.prog 204 #[.agg #[.slice a.A p.length a.c], .agg #[.slice b.A q.length b.c]] w fun x w' => x = .returned (.bool (withinB p q)) ∧ Below w.heap.size w w' := by
 refine calls_v Tryz.func204 rfl (n := 21) Tryz.ntmps204 (by simp) ?_
 intro a0 hz hdf ha
 have s0 : a0.tmps[0]?.getD undef = .agg #[.slice a.A p.length a.c] := ha 0 _ rfl
 have s1 : a0.tmps[1]?.getD undef = .agg #[.slice b.A q.length b.c] := ha 1 _ rfl
 clear ha
 have hB := Below.refl w.heap.size w
 have hZ := Nat.le_refl w.heap.size
 refine wp_seq ?_
 refine wp_entry [2, 3, 4] [.pointer (some ⟨w.heap.size, 0, none⟩), .pointer (some ⟨(w.heap.size + 1), 0, none⟩), .bool false] [some (.cells [.slice a.A p.length a.c].toArray 37), some (.cells [.slice b.A q.length b.c].toArray 37), none] [0, 1, 2] [2, 3, 4] [0, 1, 2] (by kernel_rfl) (by rw [hz]; decide) (ec ?_ (ec ?_ (ec ?_ .nil))) ?_
 · intro a w' hF hs N Q hN; simp [go_sem, hF.g rfl s0]; rw [hs]; exact hN
 · intro a w' hF hs N Q hN; simp [go_sem, hF.g rfl s1]; rw [hs]; exact hN
 · intro a w' hF hs N Q hN; simp [go_sem]; exact hN
 intro a1 w2 hF hV hb hO
 replace hz := hF.size.trans hz
 replace hdf := hF.defers.trans hdf
 have s2 : a1.tmps[2]?.getD undef = .pointer (some ⟨w.heap.size, 0, none⟩) := hV 0 (by decide)
 have s3 : a1.tmps[3]?.getD undef = .pointer (some ⟨(w.heap.size + 1), 0, none⟩) := hV 1 (by decide)
 have b3 : HasT w2 w.heap.size 37 [.slice a.A p.length a.c] := hO 0 _ rfl
 have b4 : HasT w2 (w.heap.size + 1) 37 [.slice b.A q.length b.c] := hO 1 _ rfl
 have hG := b4.lt
 replace hB := below_tr hB hb
 have zw2 := Nat.le_trans hZ hb.size
 replace hZ := Nat.le_refl w2.heap.size
 clear hF hV hb hO s0 s1
 refine th_n ?_
 refine wp_seq ?_
 refine wp_seq ?_
 refine wp_regJ (by kernel_rfl) [7, 8] [some (.agg #[.slice a.A p.length a.c]), some (.bool (decide (p.length = 0)))] ((List.range 2).map List.range) [7, 8] [0, 1] [] (fun _ _ _ => True) (by kernel_rfl) (by rw [hz]; decide) ?_ (ec ?_ (ec ?_ .nil)) ?_
 · exact fun _ _ => trivial
 · intro Lk ak ww hL hdd haa hF hK hV hX _ _ hN; refine wnt rfl ?_
   simp [go_sem, hF.g rfl s2, (b3.kp hK (by simp)).cell]
   exact (hN _ _ hK rfl trivial)
 · intro Lk ak ww hL hdd haa hF hK hV hX _ _ hN; refine wnt rfl ?_
   simp [go_sem, (gS ak 7 (hV 0 _ rfl (hdd 0 rfl)))]
   refine (sIsVoid_c p a ww).mono ?_
   rintro x wx ⟨rfl, hb⟩
   exact (hN _ _ (hK.call hb) rfl trivial)
 intro L a5 w6 hL hF hK hV hX
 replace hz := hF.size.trans hz
 replace hdf := hF.defers.trans hdf
 replace s2 := hF.g rfl s2
 replace s3 := hF.g rfl s3
 have s8 : a5.tmps[8]?.getD undef = .bool (decide (p.length = 0)) := hV 1 _ rfl
 replace b3 := b3.kp hK (by simp)
 replace b4 := b4.kp hK (by simp)
 replace hZ := Nat.le_trans hZ hK.size
 replace hB := hK.below0 hB
 clear hF hK hV hL hX
 refine th_n ?_
 rcases Bool.eq_false_or_eq_true (decide (p.length = 0)) with q7 | q7
 · skip
   refine wp_cond_true (ev (vb s8 q7)) ?_
   refine wp_seq ?_
   refine wp_regJ (by kernel_rfl) [4] [some (.bool true)] ((List.range 1).map List.range) [4] [0] [] (fun _ _ _ => True) (by kernel_rfl) (by rw [hz]; decide) ?_ (ec ?_ .nil) ?_
   · exact fun _ _ => trivial
   · exact fun Lk ak ww hL hdd haa hF hK hV hX _ _ hN => wnt rfl (wp_assign rfl rfl (hN _ _ hK rfl trivial))
   intro L a8 w9 hL hF hK hV hX
   replace hz := hF.size.trans hz
   replace hdf := hF.defers.trans hdf
   have s4 : a8.tmps[4]?.getD undef = .bool true := hV 0 _ rfl
   replace hZ := Nat.le_trans hZ hK.size
   replace hB := hK.below0 hB
   clear hF hK hV hL hX s2 s3 s8 b3 b4
   refine th_n ?_
   refine wp_ret ?_
   refine th_r ?_
   refine bodyPost_ret (v := .bool true) (by simp [results, Tryz.results204, go_sem, s4]) hdf ?_
   exact ⟨by rw [within_void (dec_t q7)], hB⟩
 · skip
   refine wp_cond_false (ev (vb s8 q7)) ?_
   refine wp_skip ?_
   refine th_n ?_
   refine wp_seq ?_
   refine wp_seq ?_
   refine wp_regJ (by kernel_rfl) [9, 10, 11, 12] [some (.agg #[.slice a.A p.length a.c]), none, some (.int .i64 (((corners p).length : Nat) : Int)), some (.int .i64 0)] ((List.range 4).map List.range) [9, 10, 11, 12] [0, 1, 2, 3] [] (fun L aa ww => (L 1 = true → (fun ww v => ∃ A1 c1, v = .slice A1 ((corners p).length) c1 ∧ New 57 3 spotC ww w6.heap.size (.slice A1 (corners p).length c1) (corners p)) ww (aa.tmps[10]?.getD undef))) (by kernel_rfl) (by rw [hz]; decide) ?_ (ec ?_ (ec ?_ (ec ?_ (ec ?_ .nil)))) ?_
   · exact fun _ h => (fun h => by cases h)
   · intro Lk ak ww hL hdd haa hF hK hV hX _ _ hN; refine wnt rfl ?_
     simp [go_sem, hF.g rfl s2, (b3.kp hK (by simp)).cell]
     exact (hN _ _ hK rfl (fun h => by rw [put_ne' (by decide)]; obtain ⟨A1', c1', e, f1'⟩ := hX h; exact ⟨A1', c1', e, f1'.below bR leR⟩))
   · intro Lk ak ww hL hdd haa hF hK hV hX _ _ hN
     have x0 := hX
     refine wnt rfl ?_
     simp [go_sem, (gS ak 9 (hV 0 _ rfl (hdd 0 rfl)))]
     have hBi := hK.below0 hB
     refine (sCorners_c p a ww hp (hsp.below hBi)).mono ?_
     rintro x wx ⟨_, rfl, ⟨A1, c1, rfl, f0⟩, hb⟩
     have f1 := New.mono (show New 57 3 spotC wx ww.heap.size (.slice A1 (corners p).length c1) (corners p) from ⟨_, _, rfl, f0⟩) hK.size
     exact (hN _ _ (hK.call hb) trivial (fun _ => by rw [put_get_self (hF.lt (by rw [hz]; decide))]; exact ⟨A1, c1, rfl, f1⟩))
   · intro Lk ak ww hL hdd haa hF hK hV hX _ _ hN
     have x0 := hX
     refine wnt rfl ?_
     obtain ⟨A1, c1, ee1, f1⟩ := x0 (hdd 1 rfl)
     simp [go_sem, ee1]
     exact (hN _ _ hK rfl (fun h => by rw [put_ne' (by decide)]; obtain ⟨A1', c1', e, f1'⟩ := x0 h; exact ⟨A1', c1', e, f1'.below bR leR⟩))
   · exact fun Lk ak ww hL hdd haa hF hK hV hX _ _ hN => wnt rfl (wp_move rfl rfl (hN _ _ hK rfl (fun h => by rw [put_ne' (by decide)]; obtain ⟨A1', c1', e, f1'⟩ := hX h; exact ⟨A1', c1', e, f1'.below bR leR⟩)))
   intro L a10 w11 hL hF hK hV hX
   have x0 := hX
   replace hz := hF.size.trans hz
   replace hdf := hF.defers.trans hdf
   replace s3 := hF.g rfl s3
   have s11 : a10.tmps[11]?.getD undef = .int .i64 (((corners p).length : Nat) : Int) := hV 2 _ rfl
   have s12 : a10.tmps[12]?.getD undef = .int .i64 0 := hV 3 _ rfl
   replace b4 := b4.kp hK (by simp)
   obtain ⟨A1, c1, s10, N1⟩ := x0 (hL 1 (by decide))
   have i1 : ∀ p, A1 = some p → p.block < w11.heap.size := fun p hp => (N1.blk p hp).2
   have zw6 := hZ
   have zw11 := hK.size
   replace hZ := Nat.le_refl w11.heap.size
   replace hB := hK.below0 hB
   clear hF hK hV hL x0 s2 s8 b3
   refine th_n ?_
   refine wp_block ?_
   refine wp_loop (fun al wl => al.tmps.size = 21 ∧ al.defers = [] ∧ ∃ (k : Nat), (k ≤ (corners p).length) ∧ (((corners p).take k).all (holdsB q) = true) ∧ al.tmps[3]?.getD undef = .pointer (some ⟨(w.heap.size + 1), 0, none⟩) ∧ al.tmps[11]?.getD undef = .int .i64 (((corners p).length : Nat) : Int) ∧ al.tmps[12]?.getD undef = .int .i64 (k : Int) ∧ al.tmps[10]?.getD undef = .slice A1 ((corners p).length) c1 ∧ HasT wl (w.heap.size + 1) 37 [.slice b.A q.length b.c] ∧ New 57 3 spotC wl w6.heap.size (.slice A1 (corners p).length c1) (corners p) ∧ Below w.heap.size w wl ∧ w11.heap.size ≤ wl.heap.size) (fun al _ => ((corners p).length - (intOf (al.tmps[12]?.getD undef)).toNat)) ?_ ?_
   · exact ⟨hz, hdf, (0), (Nat.zero_le _), (rfl), s3, s11, s12, s10, b4, N1, hB, (by omega)⟩
   clear hz hdf hB hZ s3 s11 s12 s10 b4 N1
   rintro a12 w13 ⟨hz, hdf, k, hk, hall, s3, s11, s12, s10, b4, N1, hB, hZ⟩
   have zw13 := hZ
   replace hZ := Nat.le_refl w13.heap.size
   have hmu : ((corners p).length - (intOf (a12.tmps[12]?.getD undef)).toNat) = ((corners p).length - (intOf ((.int .i64 (k : Int)))).toNat) := by rw [s12]
   refine wp_seq ?_
   refine wp_regJ (by kernel_rfl) [13] [some (.bool (decide ((k : Int) < (((corners p).length : Nat) : Int))))] ((List.range 1).map List.range) [13] [0] [] (fun _ _ _ => True) (by kernel_rfl) (by rw [hz]; decide) ?_ (ec ?_ .nil) ?_
   · exact fun _ _ => trivial
   · exact fun Lk ak ww hL hdd haa hF hK hV hX _ _ hN => wnt rfl (wp_bin rfl (ev (hF.g rfl s12)) (ev (hF.g rfl s11)) rfl rfl (hN _ _ hK rfl trivial))
   intro L a14 w15 hL hF hK hV hX
   replace hz := hF.size.trans hz
   replace hdf := hF.defers.trans hdf
   replace s3 := hF.g rfl s3
   replace s11 := hF.g rfl s11
   replace s12 := hF.g rfl s12
   replace s10 := hF.g rfl s10
   have s13 : a14.tmps[13]?.getD undef = .bool (decide ((k : Int) < (((corners p).length : Nat) : Int))) := hV 0 _ rfl
   replace b4 := b4.kp hK (by simp)
   replace N1 := N1.below hK.toBelow leR
   replace hZ := Nat.le_trans hZ hK.size
   replace hB := hK.below0 hB
   clear hF hK hV hL hX
   refine th_n ?_
   refine wp_seq ?_
   rcases Bool.eq_false_or_eq_true (decide ((k : Int) < (((corners p).length : Nat) : Int))) with q16 | q16
   · skip
     have hkl : k < (corners p).length := by have := dec_t q16; omega
     have hcl : (corners p).length ≤ 40 := by rw [corners_len]; exact reg_len hp
     obtain ⟨bc, oc, ec_, fc⟩ := ElS.open_ (N1.out spotC_len) (by omega)
     refine wp_cond_true (ev (vb s13 q16)) ?_
     refine wp_skip ?_
     refine th_n ?_
     refine wp_seq ?_
     refine wp_block ?_
     refine wp_seq ?_
     refine wp_regJ (by kernel_rfl) [14, 15, 6, 0] [some (.pointer (some ⟨bc, oc + k * 3, none⟩)), some (spotV ((corners p).getD k sp0)), none, none] ((List.range 4).map List.range) [14, 15, 6] [0, 1, 2, 3] [] (fun L aa ww => (L 2 = true → BoxX w15 aa ww 6 57 [.int .i64 0, .int .i64 0, .int .i64 0] (L 3) (fun _ vs => vs = [.int .i64 (((corners p).getD k sp0).x), .int .i64 (((corners p).getD k sp0).y), .int .i64 (((corners p).getD k sp0).d)]))) (by kernel_rfl) (by rw [hz]; decide) ?_ (ec ?_ (ec ?_ (ec ?_ (ec ?_ .nil)))) ?_
     · exact fun _ h => (fun h => by cases h)
     · intro Lk ak ww hL hdd haa hF hK hV hX _ _ hN; refine wnt rfl ?_
       simp [go_sem, hF.g rfl s10, hF.g rfl s12, hkl, ec_]
       exact (hN _ _ hK rfl (fun h => ((hX h).bel bR (fun _ h => h)).put (by decide) _))
     · intro Lk ak ww hL hdd haa hF hK hV hX _ _ hN; refine wnt rfl ?_
       have hE := fc.kp hK (by simp)
       simp [go_sem, (gS ak 14 (hV 0 _ rfl (hdd 0 rfl))), (hE.at_ sp0 (i := k) (by omega) 0 (p := oc + k * 3) (by omega) rfl), (hE.at_ sp0 (i := k) (by omega) 1 (p := oc + k * 3 + 1) (by omega) rfl), (hE.at_ sp0 (i := k) (by omega) 2 (p := oc + k * 3 + 2) (by omega) rfl)]
       exact (hN _ _ hK rfl (fun h => ((hX h).bel bR (fun _ h => h)).put (by decide) _))
     · intro Lk ak ww hL hdd haa hF hK hV hX _ _ hN
       have x0 := hX
       refine wnt rfl ?_
       simp [go_sem]
       exact hN _ _ (hK.alloc _) trivial (fun _ => by rw [show upd Lk 2 3 = false from haa 3 rfl]; exact BoxX.new (s := 6) (hF.lt (by rw [hz]; decide)) hK.size [.int .i64 0, .int .i64 0, .int .i64 0])
     · intro Lk ak ww hL hdd haa hF hK hV hX _ _ hN
       have x0 := hX
       refine wnt rfl ?_
       obtain ⟨g, eg, hg, y, _⟩ := x0 (hdd 2 rfl)
       have HT := y hL
       simp [go_sem, (gS ak 15 (hV 1 _ rfl (hdd 1 rfl))), eg, HT.cell, HT.frz]
       exact hN undef _ (hK.store (.inl hg) [.int .i64 (((corners p).getD k sp0).x), .int .i64 (((corners p).getD k sp0).y), .int .i64 (((corners p).getD k sp0).d)] 0) trivial (fun _ => BoxX.set eg hg HT (us := [.int .i64 (((corners p).getD k sp0).x), .int .i64 (((corners p).getD k sp0).y), .int .i64 (((corners p).getD k sp0).d)]) rfl rfl)
     intro L a17 w18 hL hF hK hV hX
     have x0 := hX
     replace hz := hF.size.trans hz
     replace hdf := hF.defers.trans hdf
     replace s3 := hF.g rfl s3
     replace s11 := hF.g rfl s11
     replace s12 := hF.g rfl s12
     replace s10 := hF.g rfl s10
     replace b4 := b4.kp hK (by simp)
     obtain ⟨g19, s6, lg19, -, b19⟩ := x0 (hL 2 (by decide))
     obtain ⟨_, b19, rfl⟩ := b19 (hL 3 (by decide))
     have ug19 := b19.lt
     replace N1 := N1.below hK.toBelow leR
     have zw15 := hZ
     have zw18 := hK.size
     replace hZ := Nat.le_refl w18.heap.size
     replace hB := hK.below0 hB
     clear hF hK hV hL x0 s13 fc
     refine th_n ?_
     refine wp_seq ?_
     refine wp_regJ (by kernel_rfl) [16, 17, 18, 19] [some (.agg #[.slice b.A q.length b.c]), some (spotV ((corners p).getD k sp0)), some (.bool (holdsB q ((corners p).getD k sp0))), some (.bool (!(holdsB q ((corners p).getD k sp0))))] ((List.range 4).map List.range) [16, 17, 18, 19] [0, 1, 2, 3] [] (fun _ _ _ => True) (by kernel_rfl) (by rw [hz]; decide) ?_ (ec ?_ (ec ?_ (ec ?_ (ec ?_ .nil)))) ?_
     · exact fun _ _ => trivial
     · intro Lk ak ww hL hdd haa hF hK hV hX _ _ hN; refine wnt rfl ?_
       simp [go_sem, hF.g rfl s3, (b4.kp hK (by simp)).cell]
       exact (hN _ _ hK rfl trivial)
     · intro Lk ak ww hL hdd haa hF hK hV hX _ _ hN; refine wnt rfl ?_
       simp [go_sem, hF.g rfl s6, (b19.kp hK (by simp)).cell]
       exact (hN _ _ hK rfl trivial)
     · intro Lk ak ww hL hdd haa hF hK hV hX _ _ hN; refine wnt rfl ?_
       simp [go_sem, (gS ak 16 (hV 0 _ rfl (hdd 0 rfl))), (gS ak 17 (hV 1 _ rfl (hdd 1 rfl)))]
       have hBi := hK.below0 hB
       refine (sHas_c q b ((corners p).getD k sp0) ww (by have := reg_len hq; omega) (reg_ok hq) (corners_ok hp _ (getD_mem hkl sp0)) (hsq.below hBi)).mono ?_
       rintro x wx ⟨rfl, hb⟩
       exact (hN _ _ (hK.call hb) rfl trivial)
     · exact fun Lk ak ww hL hdd haa hF hK hV hX _ _ hN => wnt rfl (wp_not rfl (ev (hV 2 _ rfl (hdd 2 rfl))) (hN _ _ hK rfl trivial))
     intro L a20 w21 hL hF hK hV hX
     replace hz := hF.size.trans hz
     replace hdf := hF.defers.trans hdf
     replace s3 := hF.g rfl s3
     replace s11 := hF.g rfl s11
     replace s12 := hF.g rfl s12
     replace s10 := hF.g rfl s10
     have s19 : a20.tmps[19]?.getD undef = .bool (!(holdsB q ((corners p).getD k sp0))) := hV 3 _ rfl
     replace b4 := b4.kp hK (by simp)
     replace N1 := N1.below hK.toBelow leR
     replace hZ := Nat.le_trans hZ hK.size
     replace hB := hK.below0 hB
     clear hF hK hV hL hX s6 b19
     refine th_n ?_
     rcases Bool.eq_false_or_eq_true (!(holdsB q ((corners p).getD k sp0))) with q22 | q22
     · skip
       refine wp_cond_true (ev (vb s19 q22)) ?_
       refine wp_seq ?_
       refine wp_regJ (by kernel_rfl) [4] [some (.bool false)] ((List.range 1).map List.range) [4] [0] [] (fun _ _ _ => True) (by kernel_rfl) (by rw [hz]; decide) ?_ (ec ?_ .nil) ?_
       · exact fun _ _ => trivial
       · exact fun Lk ak ww hL hdd haa hF hK hV hX _ _ hN => wnt rfl (wp_assign rfl rfl (hN _ _ hK rfl trivial))
       intro L a23 w24 hL hF hK hV hX
       replace hz := hF.size.trans hz
       replace hdf := hF.defers.trans hdf
       have s4 : a23.tmps[4]?.getD undef = .bool false := hV 0 _ rfl
       replace hZ := Nat.le_trans hZ hK.size
       replace hB := hK.below0 hB
       clear hF hK hV hL hX s3 s11 s12 s10 s19 b4 N1 i1
       refine th_n ?_
       refine wp_ret ?_
       refine ib_r (th_r (th_r (ib_r (th_r ?_))))
       refine bodyPost_ret (v := .bool false) (by simp [results, Tryz.results204, go_sem, s4]) hdf ?_
       exact ⟨by unfold withinB; rw [within_stop hkl (not_t q22)], hB⟩
     · skip
       refine wp_cond_false (ev (vb s19 q22)) ?_
       refine wp_skip ?_
       refine ib_n (th_n ?_)
       refine wp_regJ (by kernel_rfl) [20, 12] [some (.int .i64 ((k : Int) + 1)), some (.int .i64 ((k : Int) + 1))] ((List.range 2).map List.range) [20, 12] [0, 1] [] (fun L aa ww => (L 1 = false → aa.tmps[12]?.getD undef = .int .i64 (k : Int))) (by kernel_rfl) (by rw [hz]; decide) ?_ (ec ?_ (ec ?_ .nil)) ?_
       · exact fun _ h => (fun _ => s12)
       · intro Lk ak ww hL hdd haa hF hK hV hX _ _ hN
         have x0 := hX
         refine wnt rfl ?_
         exact wp_add rfl (ev (x0 (haa 1 rfl))) rfl (by omega) (hN _ _ hK rfl (fun h => (put_ne' (by decide) _).trans (x0 h)))
       · intro Lk ak ww hL hdd haa hF hK hV hX _ _ hN
         have x0 := hX
         refine wnt rfl ?_
         exact wp_move rfl (ev (hV 0 _ rfl (hdd 0 rfl))) (hN _ _ hK rfl (fun h => by simp [upd] at h))
       intro L a25 w26 hL hF hK hV hX
       have x0 := hX
       replace hz := hF.size.trans hz
       replace hdf := hF.defers.trans hdf
       replace s3 := hF.g rfl s3
       replace s11 := hF.g rfl s11
       replace s10 := hF.g rfl s10
       have s12 : a25.tmps[12]?.getD undef = .int .i64 ((k : Int) + 1) := hV 1 _ rfl
       replace b4 := b4.kp hK (by simp)
       replace N1 := N1.below hK.toBelow leR
       replace hZ := Nat.le_trans hZ hK.size
       replace hB := hK.below0 hB
       clear hF hK hV hL x0 s19
       refine th_n ?_
       refine ⟨?_, ?_⟩
       · exact ⟨hz, hdf, (k + 1), (by omega), (within_next hkl hall (not_f q22)), s3, s11, s12, s10, b4, N1, hB, (by omega)⟩
       · show ((corners p).length - (intOf (a25.tmps[12]?.getD undef)).toNat) < _
         rw [s12, hmu]; simp only [intOf]; omega
   · skip
     have ek : k = (corners p).length := by have := dec_f q16; omega
     rw [ek, List.take_length] at hall
     refine wp_cond_false (ev (vb s13 q16)) ?_
     refine wp_exit ?_
     refine th_e (th_e (ib_x (th_n ?_)))
     refine wp_seq ?_
     refine wp_regJ (by kernel_rfl) [4] [some (.bool true)] ((List.range 1).map List.range) [4] [0] [] (fun _ _ _ => True) (by kernel_rfl) (by rw [hz]; decide) ?_ (ec ?_ .nil) ?_
     · exact fun _ _ => trivial
     · exact fun Lk ak ww hL hdd haa hF hK hV hX _ _ hN => wnt rfl (wp_assign rfl rfl (hN _ _ hK rfl trivial))
     intro L a27 w28 hL hF hK hV hX
     replace hz := hF.size.trans hz
     replace hdf := hF.defers.trans hdf
     have s4 : a27.tmps[4]?.getD undef = .bool true := hV 0 _ rfl
     replace hZ := Nat.le_trans hZ hK.size
     replace hB := hK.below0 hB
     clear hF hK hV hL hX s3 s11 s12 s10 s13 b4 N1 i1
     refine th_n ?_
     refine wp_ret ?_
     refine bodyPost_ret (v := .bool true) (by simp [results, Tryz.results204, go_sem, s4]) hdf ?_
     exact ⟨by unfold withinB; rw [hall], hB⟩
set_option maxRecDepth 100000 in
set_option maxHeartbeats 3000000 in
theorem sIsWithin_c (p q : List Half) (a b : SlA) (w : World) (hlp : p.length ≤ 1048576) (hip : ∀ h ∈ p, h.In) (hlq : q.length ≤ 1048576) (hiq : ∀ h ∈ q, h.In) (hsp : Sl 3 halfC w a.A p) (hsq : Sl 3 halfC w b.A q) (hna : a.A = none → a.c = 0) (hnb : b.A = none → b.c = 0) :
    Calls Tryz.prog 146 #[.agg #[.slice a.A p.length a.c], .agg #[.slice b.A q.length b.c]] w fun x w' => x = .returned (.bool (regionOk p && regionOk q && withinB p q)) ∧ Below w.heap.size w w' := by
 refine calls_v Tryz.func146 rfl (n := 16) Tryz.ntmps146 (by simp) ?_
 intro a0 hz hdf ha
 have s0 : a0.tmps[0]?.getD undef = .agg #[.slice a.A p.length a.c] := ha 0 _ rfl
 have s1 : a0.tmps[1]?.getD undef = .agg #[.slice b.A q.length b.c] := ha 1 _ rfl
 clear ha
 have hB := Below.refl w.heap.size w
 have hZ := Nat.le_refl w.heap.size
 refine wp_seq ?_
 refine wp_entry [2, 3, 4] [.pointer (some ⟨w.heap.size, 0, none⟩), .pointer (some ⟨(w.heap.size + 1), 0, none⟩), .bool false] [some (.cells [.slice a.A p.length a.c].toArray 37), some (.cells [.slice b.A q.length b.c].toArray 37), none] [0, 1, 2] [2, 3, 4] [0, 1, 2] (by kernel_rfl) (by rw [hz]; decide) (ec ?_ (ec ?_ (ec ?_ .nil))) ?_
 · intro a w' hF hs N Q hN; simp [go_sem, hF.g rfl s0]; rw [hs]; exact hN
 · intro a w' hF hs N Q hN; simp [go_sem, hF.g rfl s1]; rw [hs]; exact hN
 · intro a w' hF hs N Q hN; simp [go_sem]; exact hN
 intro a1 w2 hF hV hb hO
 replace hz := hF.size.trans hz
 replace hdf := hF.defers.trans hdf
 have s2 : a1.tmps[2]?.getD undef = .pointer (some ⟨w.heap.size, 0, none⟩) := hV 0 (by decide)
 have s3 : a1.tmps[3]?.getD undef = .pointer (some ⟨(w.heap.size + 1), 0, none⟩) := hV 1 (by decide)
 have b3 : HasT w2 w.heap.size 37 [.slice a.A p.length a.c] := hO 0 _ rfl
 have b4 : HasT w2 (w.heap.size + 1) 37 [.slice b.A q.length b.c] := hO 1 _ rfl
 have hG := b4.lt
 replace hB := below_tr hB hb
 have zw2 := Nat.le_trans hZ hb.size
 replace hZ := Nat.le_refl w2.heap.size
 clear hF hV hb hO s0 s1
 refine th_n ?_
 refine wp_seq ?_
 refine wp_regJ (by kernel_rfl) [5, 6, 7, 8, 9, 10, 11, 12, 13, 14, 15, 4] [some (.agg #[.slice a.A p.length a.c]), some (.bool (regionOk p)), some (.bool (regionOk p)), some ((bif regionOk p then (.agg #[.slice b.A q.length b.c] : Value) else undef)), some ((bif regionOk p then (.bool (regionOk q) : Value) else undef)), some (.bool (regionOk p && regionOk q)), some (.bool (regionOk p && regionOk q)), some ((bif (regionOk p && regionOk q) then (.agg #[.slice a.A p.length a.c] : Value) else undef)), some ((bif (regionOk p && regionOk q) then (.agg #[.slice b.A q.length b.c] : Value) else undef)), some ((bif (regionOk p && regionOk q) then (.bool (withinB p q) : Value) else undef)), some (.bool ((regionOk p && regionOk q) && withinB p q)), some (.bool ((regionOk p && regionOk q) && withinB p q))] ((List.range 12).map List.range) [5, 6, 7, 8, 9, 10, 11, 12, 13, 14, 15, 4] [0, 1, 2, 3, 4, 5, 6, 7, 8, 9, 10, 11] [] (fun _ _ _ => True) (by kernel_rfl) (by rw [hz]; decide) ?_ (ec ?_ (ec ?_ (ec ?_ (ec ?_ (ec ?_ (ec ?_ (ec ?_ (ec ?_ (ec ?_ (ec ?_ (ec ?_ (ec ?_ .nil)))))))))))) ?_
 · exact fun _ _ => trivial
 · intro Lk ak ww hL hdd haa hF hK hV hX _ _ hN; refine wnt rfl ?_
   simp [go_sem, hF.g rfl s2, (b3.kp hK (by simp)).cell]
   exact (hN _ _ hK rfl trivial)
 · intro Lk ak ww hL hdd haa hF hK hV hX _ _ hN; refine wnt rfl ?_
   simp [go_sem, (gS ak 5 (hV 0 _ rfl (hdd 0 rfl)))]
   have hBi := hK.below0 hB
   refine (sRegionOk_c p a ww hlp hip (hsp.below hBi) hna).mono ?_
   rintro x wx ⟨rfl, hb⟩
   exact (hN _ _ (hK.call hb) rfl trivial)
 · exact fun Lk ak ww hL hdd haa hF hK hV hX _ _ hN => wnt rfl (wp_move rfl (ev (hV 1 _ rfl (hdd 1 rfl))) (hN _ _ hK rfl trivial))
 · intro Lk ak ww hL hdd haa hF hK hV hX _ _ hN
   refine wgt rfl rfl rfl (hV 2 _ rfl (hdd 2 rfl)) (fun qg => hN _ _ hK (bif_f qg).symm trivial) fun qg => ?_
   simp [go_sem, hF.g rfl s3, (b4.kp hK (by simp)).cell]
   exact (hN _ _ hK (bif_t qg).symm trivial)
 · intro Lk ak ww hL hdd haa hF hK hV hX _ _ hN
   refine wgt rfl rfl rfl (hV 2 _ rfl (hdd 2 rfl)) (fun qg => hN _ _ hK (bif_f qg).symm trivial) fun qg => ?_
   simp [go_sem, (show ak.tmps[8]?.getD undef = _ from (hV 3 _ rfl (hdd 3 rfl)).trans (bif_t qg))]
   have hBi := hK.below0 hB
   refine (sRegionOk_c q b ww hlq hiq (hsq.below hBi) hnb).mono ?_
   rintro x wx ⟨rfl, hb⟩
   exact (hN _ _ (hK.call hb) (bif_t qg).symm trivial)
 · exact fun Lk ak ww hL hdd haa hF hK hV hX _ _ hN => wnt rfl (wp_pick rfl (ev (hV 2 _ rfl (hdd 2 rfl))) (fun h => (ev ((hV 4 _ rfl (hdd 4 rfl)).trans (bif_t h))).trans (vand_t h)) (fun h => vand_f h) (hN _ _ hK rfl trivial))
 · exact fun Lk ak ww hL hdd haa hF hK hV hX _ _ hN => wnt rfl (wp_move rfl (ev (hV 5 _ rfl (hdd 5 rfl))) (hN _ _ hK rfl trivial))
 · intro Lk ak ww hL hdd haa hF hK hV hX _ _ hN
   refine wgt rfl rfl rfl (hV 6 _ rfl (hdd 6 rfl)) (fun qg => hN _ _ hK (bif_f qg).symm trivial) fun qg => ?_
   simp [go_sem, hF.g rfl s2, (b3.kp hK (by simp)).cell]
   exact (hN _ _ hK (bif_t qg).symm trivial)
 · intro Lk ak ww hL hdd haa hF hK hV hX _ _ hN
   refine wgt rfl rfl rfl (hV 6 _ rfl (hdd 6 rfl)) (fun qg => hN _ _ hK (bif_f qg).symm trivial) fun qg => ?_
   simp [go_sem, hF.g rfl s3, (b4.kp hK (by simp)).cell]
   exact (hN _ _ hK (bif_t qg).symm trivial)
 · intro Lk ak ww hL hdd haa hF hK hV hX _ _ hN
   refine wgt rfl rfl rfl (hV 6 _ rfl (hdd 6 rfl)) (fun qg => hN _ _ hK (bif_f qg).symm trivial) fun qg => ?_
   simp [go_sem, (show ak.tmps[12]?.getD undef = _ from (hV 7 _ rfl (hdd 7 rfl)).trans (bif_t qg)), (show ak.tmps[13]?.getD undef = _ from (hV 8 _ rfl (hdd 8 rfl)).trans (bif_t qg))]
   have hBi := hK.below0 hB
   refine (sWithinL_c p q a b ww (and_t1 qg) (and_t2 qg) (hsp.below hBi) (hsq.below hBi)).mono ?_
   rintro x wx ⟨rfl, hb⟩
   exact (hN _ _ (hK.call hb) (bif_t qg).symm trivial)
 · exact fun Lk ak ww hL hdd haa hF hK hV hX _ _ hN => wnt rfl (wp_pick rfl (ev (hV 6 _ rfl (hdd 6 rfl))) (fun h => (ev ((hV 9 _ rfl (hdd 9 rfl)).trans (bif_t h))).trans (vand_t h)) (fun h => vand_f h) (hN _ _ hK rfl trivial))
 · exact fun Lk ak ww hL hdd haa hF hK hV hX _ _ hN => wnt rfl (wp_assign rfl (ev (hV 10 _ rfl (hdd 10 rfl))) (hN _ _ hK rfl trivial))
 intro L a5 w6 hL hF hK hV hX
 replace hz := hF.size.trans hz
 replace hdf := hF.defers.trans hdf
 have s4 : a5.tmps[4]?.getD undef = .bool ((regionOk p && regionOk q) && withinB p q) := hV 11 _ rfl
 replace hZ := Nat.le_trans hZ hK.size
 replace hB := hK.below0 hB
 clear hF hK hV hL hX s2 s3 b3 b4
 refine th_n ?_
 refine wp_ret ?_
 refine bodyPost_ret (v := .bool ((regionOk p && regionOk q) && withinB p q)) (by simp [results, Tryz.results146, go_sem, s4]) hdf ?_
 exact ⟨rfl, hB⟩
end Go.Proofs.YtdncnhcffbgjhaaGreat
