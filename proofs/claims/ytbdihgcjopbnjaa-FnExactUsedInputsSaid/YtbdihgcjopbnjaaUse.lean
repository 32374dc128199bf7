/-
  UsedInputs: of the program and of the reference.
  Conditions: the slices hold at most 2^20 elements.
-/
import Derived.Test.YtbdihgcjopbnjaaGrA
import Derived.Test.YtbdihgcjopbnjaaGrG
import Derived.Test.YtbdihgcjopbnjaaGrE
import Derived.Test.YtbdihgcjopbnjaaPred
namespace Go.Proofs.Ytbdihgcjopbnjaa
open Go.RowKit

/-- The least and the greatest of the first one and the first k ones. -/
def useAt (xs : List Ratio) : Nat → Ratio × Ratio
  | 0 => (xs.getD 0 ratio0, xs.getD 0 ratio0)
  | k + 1 => (ratioMin (useAt xs k).1 (xs.getD k ratio0), ratioMax (useAt xs k).2 (xs.getD k ratio0))
def useOk (xs : List Ratio) : Bool := !xs.isEmpty && (List.range xs.length).all fun k => ratioOk (xs.getD k ratio0)
def used (xs : List Ratio) : Ratio × Ratio := if useOk xs = true then useAt xs xs.length else (ratio0, ratio0)
theorem use_get {xs : List Ratio} {k : Nat} (h : k < xs.length) : xs.getD k ratio0 = xs[k] := by
  rw [List.getD_eq_getElem?_getD, List.getElem?_eq_getElem h]; rfl
theorem useOk_no {xs : List Ratio} {k : Nat} (h : k < xs.length) (hk : ratioOk xs[k] = false) : useOk xs = false := by
  unfold useOk
  rw [Bool.and_eq_false_iff]; right
  rw [List.all_eq_false]
  exact ⟨k, List.mem_range.2 h, by rw [use_get h, hk]; decide⟩
theorem useOk_yes {xs : List Ratio} (h0 : 0 < xs.length) (h : ∀ k, k < xs.length → ratioOk (xs.getD k ratio0) = true) : useOk xs = true := by
  unfold useOk
  rw [Bool.and_eq_true]
  refine ⟨?_, ?_⟩
  · cases xs with
    | nil => simp at h0
    | cons a l => rfl
  · rw [List.all_eq_true]; intro k hk; exact h k (List.mem_range.1 hk)
theorem useAt_in {xs : List Ratio} (hin : ∀ y ∈ xs, Ratio.In y) (h0 : 0 < xs.length) : ∀ k : Nat, k ≤ xs.length → (useAt xs k).1.In ∧ (useAt xs k).2.In
  | 0, _ => by
    simp only [useAt, use_get h0]
    exact ⟨hin _ (List.getElem_mem h0), hin _ (List.getElem_mem h0)⟩
  | k + 1, h => by
    have := useAt_in hin h0 k (by omega)
    simp only [useAt, use_get (show k < xs.length by omega)]
    exact ⟨ratioMin_in this.1 (hin _ (List.getElem_mem _)), ratioMax_in this.2 (hin _ (List.getElem_mem _))⟩
theorem useAt_ok {xs : List Ratio} (h : ∀ k, k < xs.length → ratioOk (xs.getD k ratio0) = true) (h0 : 0 < xs.length) : ∀ k : Nat, k ≤ xs.length → ratioOk (useAt xs k).1 = true
  | 0, _ => by simp only [useAt]; exact h 0 h0
  | k + 1, hk => by simp only [useAt]; exact ratioMin_ok (useAt_ok h h0 k (by omega)) (h k (by omega))

set_option maxRecDepth 100000 in
set_option maxHeartbeats 8000000 in
theorem sUsed_c (x : Track) (A : TrackA) (w : World) (hx : trackLen x ≤ 1048576) (hin : TrackIn x) (hs0 : TrackSl w x A) :
    Calls Try.prog 23 #[trackV x A] w fun e w' => e = .returned (.tuple #[ratioV (used x.inputs).1, ratioV (used x.inputs).2, .bool (useOk x.inputs)]) ∧ Below w.heap.size w w' := by
  obtain ⟨ai, ⟨B, bc⟩⟩ := A
  have hs : Sl 2 ratioC w B x.inputs := hs0.inputs
  have hl : x.inputs.length ≤ 1048576 := by simp only [trackLen] at hx; omega
  have HI := Lib.hid hin.inputs
  clear hx hin hs0
  obtain ⟨W0, hW⟩ : ∃ W0, W0 = (((w.alloc (.cells #[.slice ai.A (List.length x.spots) ai.c, .slice B (List.length x.inputs) bc] 46)).alloc (.cells #[.int .i64 0, .int .i64 0] 41)).alloc (.cells #[.int .i64 0, .int .i64 0] 41)) := ⟨_, rfl⟩
  have HP : Has W0 w.heap.size [.slice ai.A (List.length x.spots) ai.c, .slice B (List.length x.inputs) bc] := by rw [hW]; repeat (first | ((with_reducible refine Has.new_at ?_ _ _ rfl); (first | rfl | (focus (simp; done)))) | (with_reducible refine Has.set_ ?_ ?_ _) | (with_reducible refine Has.alloc ?_ _) | (with_reducible refine Has.below ?_ (by assumption)) | (focus (simp; done)) | (focus (simp; omega)))
  have T2 : HasT W0 (w.heap.size + 1) 41 [.int .i64 0, .int .i64 0] := by
    have h1 := HasT.new (w.alloc (.cells #[.slice ai.A (List.length x.spots) ai.c, .slice B (List.length x.inputs) bc] 46)) [.int .i64 0, .int .i64 0] 41
    simp only [World.size_alloc] at h1
    rw [hW]; exact h1.alloc _
  have T3 : HasT W0 (w.heap.size + 1 + 1) 41 [.int .i64 0, .int .i64 0] := by
    have h1 := HasT.new ((w.alloc (.cells #[.slice ai.A (List.length x.spots) ai.c, .slice B (List.length x.inputs) bc] 46)).alloc (.cells #[.int .i64 0, .int .i64 0] 41)) [.int .i64 0, .int .i64 0] 41
    simp only [World.size_alloc] at h1
    rw [hW]; exact h1
  have b0 : Below w.heap.size w W0 := by rw [hW]; (repeat (first | (with_reducible exact Below.refl _ _) | (with_reducible assumption) | (with_reducible refine below_al ?_ _) | (with_reducible refine Below.drew ?_) | (with_reducible refine below_drewN ?_ _) | (with_reducible refine below_st ?_ ?_ _) | (with_reducible refine below_tr ?_ (by assumption)) | (with_reducible exact Nat.le_refl _) | (focus (simp; done)) | (focus (simp; omega))))
  have z0 := Lib.hid (show W0.heap.size = w.heap.size + 1 + 1 + 1 by rw [hW]; simp)
  have hs1 := hs.below b0
  have hW' := Lib.hid hW
  clear hW
  have lP := HP.1
  obtain ⟨cHP_0, fHP_0⟩ := HP.2 0 _ rfl
  obtain ⟨cHP_1, fHP_1⟩ := HP.2 1 _ rfl
  by_cases h0 : x.inputs.length = 0
  · have e1 := Lib.hid (show useOk x.inputs = false by rw [List.length_eq_zero_iff.1 h0]; rfl)
    have e2 := Lib.hid (show used x.inputs = (ratio0, ratio0) by unfold used; rw [e1.out]; rfl)
    have hz : (((x.inputs.length : Nat) : Int) == 0) = true := by rw [beq_iff_eq]; omega
    clear h0
    go_enter Try.func23, Try.ntmps23
    go_upto_region 1 with fail
    rw [← hW'.out]
    clear hW'
    have H2 := T2.has
    have H3 := T3.has
    obtain ⟨cH2_0, fH2_0⟩ := H2.2 0 _ rfl
    obtain ⟨cH2_1, fH2_1⟩ := H2.2 1 _ rfl
    obtain ⟨cH3_0, fH3_0⟩ := H3.2 0 _ rfl
    obtain ⟨cH3_1, fH3_1⟩ := H3.2 1 _ rfl
    have l2 := H2.1
    have l3 := H3.1
    go_wp2
    refine bodyPost_ret (v := .tuple #[.agg #[.int .i64 0, .int .i64 0], .agg #[.int .i64 0, .int .i64 0], .bool false]) (by simp [results, Try.results23, go_sem, *]) rfl ⟨by rw [e1.out, e2.out]; rfl, ?_⟩
    repeat (first | (with_reducible exact Below.refl _ _) | (with_reducible assumption) | (with_reducible refine below_al ?_ _) | (with_reducible refine Below.drew ?_) | (with_reducible refine below_drewN ?_ _) | (with_reducible refine below_st ?_ ?_ _) | (with_reducible refine below_tr ?_ (by assumption)) | (with_reducible exact Nat.le_refl _) | (focus (simp; done)) | (focus (simp; omega)))
  have hpos : 0 < x.inputs.length := by omega
  have hz : (((x.inputs.length : Nat) : Int) == 0) = false := by rw [beq_eq_false_iff_ne]; omega
  have hokk := Lib.hid (fun (h0 : 0 < x.inputs.length) k hk => useAt_in HI.out h0 k hk)
  have q0 := Lib.hid (show useAt x.inputs 0 = (x.inputs[0], x.inputs[0]) by simp only [useAt, use_get hpos])
  obtain ⟨g, off, hB, hblt, hc⟩ := hs1.at_ hpos
  have g0 := hc 0 _ rfl
  have g1 := hc 1 _ rfl
  simp only [Nat.zero_mul, Nat.add_zero] at g0 g1
  clear hc
  subst hB
  generalize hy0 : x.inputs[0] = y0 at *
  clear hy0
  go_enter Try.func23, Try.ntmps23
  go_upto_region 1 with fail
  rw [← hW'.out]
  clear hW'
  have hne : ¬ (x.inputs.length = 0) := h0
  have i0 : (0 : Int) < (x.inputs.length : Int) := by omega
  have gl := Nat.lt_succ_of_lt hblt
  have g0a := (bcell1 (below_al (Below.refl W0.heap.size W0) (.cells #[.int .i64 y0.n, .int .i64 y0.d] 41)) g _ hblt).trans g0
  have g1a := (bcell1 (below_al (Below.refl W0.heap.size W0) (.cells #[.int .i64 y0.n, .int .i64 y0.d] 41)) g _ hblt).trans g1
  go_upto_region 5 with fail
  (try rw [hz])
  have T5 : HasT ((W0.alloc (.cells #[.int .i64 y0.n, .int .i64 y0.d] 41)).alloc (.cells #[.int .i64 y0.n, .int .i64 y0.d] 41)) W0.heap.size 41 [.int .i64 y0.n, .int .i64 y0.d] := (HasT.new W0 [.int .i64 y0.n, .int .i64 y0.d] 41).alloc _
  have T6 : HasT ((W0.alloc (.cells #[.int .i64 y0.n, .int .i64 y0.d] 41)).alloc (.cells #[.int .i64 y0.n, .int .i64 y0.d] 41)) (W0.heap.size + 1) 41 [.int .i64 y0.n, .int .i64 y0.d] := by
    have h1 := HasT.new (W0.alloc (.cells #[.int .i64 y0.n, .int .i64 y0.d] 41)) [.int .i64 y0.n, .int .i64 y0.d] 41
    simpa using h1
  have bb : Below W0.heap.size W0 ((W0.alloc (.cells #[.int .i64 y0.n, .int .i64 y0.d] 41)).alloc (.cells #[.int .i64 y0.n, .int .i64 y0.d] 41)) := by (repeat (first | (with_reducible exact Below.refl _ _) | (with_reducible assumption) | (with_reducible refine below_al ?_ _) | (with_reducible refine Below.drew ?_) | (with_reducible refine below_drewN ?_ _) | (with_reducible refine below_st ?_ ?_ _) | (with_reducible refine below_tr ?_ (by assumption)) | (with_reducible exact Nat.le_refl _) | (focus (simp; done)) | (focus (simp; omega))))
  generalize hW1 : (W0.alloc (.cells #[.int .i64 y0.n, .int .i64 y0.d] 41)).alloc (.cells #[.int .i64 y0.n, .int .i64 y0.d] 41) = W1 at *
  clear hW1
  replace z0 := z0.out
  have hg5 : w.heap.size + 1 + 1 + 1 ≤ W0.heap.size := by omega
  have hg6 : w.heap.size + 1 + 1 + 1 ≤ W0.heap.size + 1 := by omega
  have ne56 : W0.heap.size ≠ W0.heap.size + 1 := by omega
  replace T2 := T2.below bb
  replace T3 := T3.below bb
  replace HP := HP.below bb
  have b1 := b0.trans (bb.mono b0.size)
  clear bb b0 z0 cHP_0 cHP_1 fHP_0 fHP_1 lP hs1 g0 g1 g0a g1a gl hblt
  generalize W0.heap.size + 1 = g6 at *
  generalize W0.heap.size = g5 at *
  clear W0
  obtain ⟨cHP_0, fHP_0⟩ := HP.2 0 _ rfl
  obtain ⟨cHP_1, fHP_1⟩ := HP.2 1 _ rfl
  have lP := HP.1
  go_wp2
  go_loopw [4, 8, 26] (fun v4 _ i wr => ∃ k : Nat, v4 = .bool false ∧ k ≤ x.inputs.length ∧ i = .int .i64 k ∧ Hid (∀ j, j < k → ratioOk (x.inputs.getD j ratio0) = true) ∧ HasT wr g5 41 [.int .i64 (useAt x.inputs k).1.n, .int .i64 (useAt x.inputs k).1.d] ∧ HasT wr g6 41 [.int .i64 (useAt x.inputs k).2.n, .int .i64 (useAt x.inputs k).2.d] ∧ HasT wr (w.heap.size + 1) 41 [.int .i64 0, .int .i64 0] ∧ HasT wr (w.heap.size + 1 + 1) 41 [.int .i64 0, .int .i64 0] ∧ Below w.heap.size w wr) (fun _ _ i _ => x.inputs.length - (intOf i).toNat)
  case atStart => exact ⟨0, rfl, Nat.zero_le _, rfl, by simp [Hid], by rw [q0.out]; exact T5, by rw [q0.out]; exact T6, T2, T3, b1⟩
  case round =>
    clear T5 T6 T2 T3 b1 HP cHP_0 cHP_1 fHP_0 fHP_1 lP q0
    obtain ⟨k, rfl, hk, rfl, hok, T5, T6, T2, T3, hbr⟩ := hrel
    have hsw := hs.below hbr
    have zr := hbr.size
    by_cases hlt : k < x.inputs.length
    · obtain ⟨g', off', hE, hblt', hc'⟩ := hsw.at_ hlt
      cases hE
      have g0 := hc' 0 _ rfl
      have g1 := hc' 1 _ rfl
      have hxi := HI.out _ (List.getElem_mem hlt)
      have c1 := fun W => sRatioOk_c x.inputs[k] W hxi
      have hui := hokk.out hpos k (by omega)
      have c2 := fun W => sRatioMin_c (useAt x.inputs k).1 x.inputs[k] W hui.1 hxi
      have c3 := fun W => sRatioMax_c (useAt x.inputs k).2 x.inputs[k] W hui.2 hxi
      have hst := Lib.hid (show useAt x.inputs (k + 1) = (ratioMin (useAt x.inputs k).1 x.inputs[k], ratioMax (useAt x.inputs k).2 x.inputs[k]) by simp only [useAt, use_get hlt])
      have hbad := Lib.hid (fun h => @useOk_no x.inputs _ hlt h)
      have hok1 := fun (h : ratioOk x.inputs[k] = true) => show ∀ j, j < k + 1 → ratioOk (x.inputs.getD j ratio0) = true from by
        intro j hj
        rcases Nat.lt_or_ge j k with h2 | h2
        · exact hok.out j h2
        · obtain rfl : j = k := by omega
          rw [use_get hlt]; exact h
      have i1 : (k : Int) < (x.inputs.length : Int) := by omega
      clear hc' hok hui hxi hokk
      simp only [Nat.add_zero] at g0
      generalize x.inputs[k] = q at *
      generalize (useAt x.inputs k).1 = lo at *
      generalize (useAt x.inputs k).2 = hi at *
      have TX := HasT.new wr [.int .i64 q.n, .int .i64 q.d] 41
      have nx5 : g5 < wr.heap.size := lt_of_heap T5
      have nx6 : g6 < wr.heap.size := lt_of_heap T6
      replace T5 := T5.alloc (.cells #[.int .i64 q.n, .int .i64 q.d] 41)
      replace T6 := T6.alloc (.cells #[.int .i64 q.n, .int .i64 q.d] 41)
      replace T2 := T2.alloc (.cells #[.int .i64 q.n, .int .i64 q.d] 41)
      replace T3 := T3.alloc (.cells #[.int .i64 q.n, .int .i64 q.d] 41)
      replace hbr := hbr.alloc zr (.cells #[.int .i64 q.n, .int .i64 q.d] 41)
      go_upto_region 8 with fail
      generalize hW : wr.alloc (.cells #[.int .i64 q.n, .int .i64 q.d] 41) = wa at *
      clear hW hsw g0 g1 hblt' zr
      generalize hgx : wr.heap.size = gx at *
      clear hgx
      have HX := TX.has
      obtain ⟨cHX_0, fHX_0⟩ := HX.2 0 _ rfl
      obtain ⟨cHX_1, fHX_1⟩ := HX.2 1 _ rfl
      have lX := HX.1
      cases hv : ratioOk q
      · rw [hv] at c1
        have e1 := Lib.hid (hbad.out hv)
        have e2 := Lib.hid (show used x.inputs = (ratio0, ratio0) by unfold used; rw [e1.out]; rfl)
        clear hbad hok1 c2 c3 hst
        go_wp2_with (fail)
        refine (c1 _).mono ?_
        rintro e w1 ⟨rfl, hb_w1⟩
        replace T5 := T5.below hb_w1
        replace T6 := T6.below hb_w1
        replace T2 := T2.below hb_w1
        replace T3 := T3.below hb_w1
        replace TX := TX.below hb_w1
        replace hbr := hbr.trans (hb_w1.mono hbr.size)
        clear hb_w1
        clear HX cHX_0 cHX_1 fHX_0 fHX_1 lX
        have H2 := T2.has
        have H3 := T3.has
        obtain ⟨cH2_0, fH2_0⟩ := H2.2 0 _ rfl
        obtain ⟨cH2_1, fH2_1⟩ := H2.2 1 _ rfl
        obtain ⟨cH3_0, fH3_0⟩ := H3.2 0 _ rfl
        obtain ⟨cH3_1, fH3_1⟩ := H3.2 1 _ rfl
        have l2 := H2.1
        have l3 := H3.1
        go_wp2
        refine bodyPost_ret (v := .tuple #[.agg #[.int .i64 0, .int .i64 0], .agg #[.int .i64 0, .int .i64 0], .bool false]) (by simp [results, Try.results23, go_sem, *]) rfl ⟨by rw [e1.out, e2.out]; rfl, ?_⟩
        repeat (first | (with_reducible exact Below.refl _ _) | (with_reducible assumption) | (with_reducible refine below_al ?_ _) | (with_reducible refine Below.drew ?_) | (with_reducible refine below_drewN ?_ _) | (with_reducible refine below_st ?_ ?_ _) | (with_reducible refine below_tr ?_ (by assumption)) | (with_reducible exact Nat.le_refl _) | (focus (simp; done)) | (focus (simp; omega)))
      · rw [hv] at c1
        have hok2 := Lib.hid (hok1 hv)
        clear hbad hok1
        go_wp2_with (fail)
        refine (c1 _).mono ?_
        rintro e w1 ⟨rfl, hb_w1⟩
        replace T5 := T5.below hb_w1
        replace T6 := T6.below hb_w1
        replace T2 := T2.below hb_w1
        replace T3 := T3.below hb_w1
        replace TX := TX.below hb_w1
        replace hbr := hbr.trans (hb_w1.mono hbr.size)
        clear hb_w1
        clear HX cHX_0 cHX_1 fHX_0 fHX_1 lX
        have HX := TX.has
        obtain ⟨cHX_0, fHX_0⟩ := HX.2 0 _ rfl
        obtain ⟨cHX_1, fHX_1⟩ := HX.2 1 _ rfl
        have lX := HX.1
        have H5 := T5.has
        obtain ⟨cH5_0, fH5_0⟩ := H5.2 0 _ rfl
        obtain ⟨cH5_1, fH5_1⟩ := H5.2 1 _ rfl
        have l5 := H5.1
        go_wp2_with (fail)
        refine (c2 _).mono ?_
        rintro e w2 ⟨rfl, hb_w2⟩
        replace T5 := T5.below hb_w2
        replace T6 := T6.below hb_w2
        replace T2 := T2.below hb_w2
        replace T3 := T3.below hb_w2
        replace TX := TX.below hb_w2
        replace hbr := hbr.trans (hb_w2.mono hbr.size)
        clear hb_w2
        clear HX cHX_0 cHX_1 fHX_0 fHX_1 lX H5 cH5_0 cH5_1 fH5_0 fH5_1 l5 c2
        generalize ratioMin lo q = lo2 at *
        have H5 := T5.has
        obtain ⟨cH5_0, fH5_0⟩ := H5.2 0 _ rfl
        obtain ⟨cH5_1, fH5_1⟩ := H5.2 1 _ rfl
        have l5 := H5.1
        go_upto_region 11 with fail
        have T5n : HasT ((w2.setCell ⟨g5, 0, none⟩ (.int .i64 lo2.n)).setCell ⟨g5, 1, none⟩ (.int .i64 lo2.d)) g5 41 [.int .i64 lo2.n, .int .i64 lo2.d] := T5.store (us := [.int .i64 lo2.n, .int .i64 lo2.d]) rfl
        have T6n : HasT ((w2.setCell ⟨g5, 0, none⟩ (.int .i64 lo2.n)).setCell ⟨g5, 1, none⟩ (.int .i64 lo2.d)) (g6) 41 _ := T6.other (g' := g5) (by omega) [.int .i64 lo2.n, .int .i64 lo2.d] 0
        have T2n : HasT ((w2.setCell ⟨g5, 0, none⟩ (.int .i64 lo2.n)).setCell ⟨g5, 1, none⟩ (.int .i64 lo2.d)) (w.heap.size + 1) 41 _ := T2.other (g' := g5) (by omega) [.int .i64 lo2.n, .int .i64 lo2.d] 0
        have T3n : HasT ((w2.setCell ⟨g5, 0, none⟩ (.int .i64 lo2.n)).setCell ⟨g5, 1, none⟩ (.int .i64 lo2.d)) (w.heap.size + 1 + 1) 41 _ := T3.other (g' := g5) (by omega) [.int .i64 lo2.n, .int .i64 lo2.d] 0
        have TXn : HasT ((w2.setCell ⟨g5, 0, none⟩ (.int .i64 lo2.n)).setCell ⟨g5, 1, none⟩ (.int .i64 lo2.d)) (gx) 41 _ := TX.other (g' := g5) (by omega) [.int .i64 lo2.n, .int .i64 lo2.d] 0
        have hbn : Below w.heap.size w ((w2.setCell ⟨g5, 0, none⟩ (.int .i64 lo2.n)).setCell ⟨g5, 1, none⟩ (.int .i64 lo2.d)) := below_setCells_at (g := g5) (by omega) [.int .i64 lo2.n, .int .i64 lo2.d] 0 _ hbr
        clear T5 T6 T2 T3 TX hbr
        generalize hW : (w2.setCell ⟨g5, 0, none⟩ (.int .i64 lo2.n)).setCell ⟨g5, 1, none⟩ (.int .i64 lo2.d) = w3 at *
        clear hW
        clear H5 cH5_0 cH5_1 fH5_0 fH5_1 l5
        have T5 := T5n
        clear T5n
        have T6 := T6n
        clear T6n
        have T2 := T2n
        clear T2n
        have T3 := T3n
        clear T3n
        have TX := TXn
        clear TXn
        have hbr := hbn
        clear hbn
        have HX := TX.has
        obtain ⟨cHX_0, fHX_0⟩ := HX.2 0 _ rfl
        obtain ⟨cHX_1, fHX_1⟩ := HX.2 1 _ rfl
        have lX := HX.1
        have H6 := T6.has
        obtain ⟨cH6_0, fH6_0⟩ := H6.2 0 _ rfl
        obtain ⟨cH6_1, fH6_1⟩ := H6.2 1 _ rfl
        have l6 := H6.1
        go_wp2_with (fail)
        refine (c3 _).mono ?_
        rintro e w4 ⟨rfl, hb_w4⟩
        replace T5 := T5.below hb_w4
        replace T6 := T6.below hb_w4
        replace T2 := T2.below hb_w4
        replace T3 := T3.below hb_w4
        replace TX := TX.below hb_w4
        replace hbr := hbr.trans (hb_w4.mono hbr.size)
        clear hb_w4
        clear HX cHX_0 cHX_1 fHX_0 fHX_1 lX H6 cH6_0 cH6_1 fH6_0 fH6_1 l6 c3
        generalize ratioMax hi q = hi2 at *
        have H6 := T6.has
        obtain ⟨cH6_0, fH6_0⟩ := H6.2 0 _ rfl
        obtain ⟨cH6_1, fH6_1⟩ := H6.2 1 _ rfl
        have l6 := H6.1
        go_wp2
        go_roundw
        case rel =>
          refine ⟨k + 1, rfl, by omega, by go_num, hok2, ?_, ?_, ?_, ?_, ?_⟩
          · rw [hst.out]; exact T5.other (g' := g6) (by omega) [.int .i64 hi2.n, .int .i64 hi2.d] 0
          · rw [hst.out]; exact T6.store (us := [.int .i64 hi2.n, .int .i64 hi2.d]) rfl
          · exact T2.other (g' := g6) (by omega) [.int .i64 hi2.n, .int .i64 hi2.d] 0
          · exact T3.other (g' := g6) (by omega) [.int .i64 hi2.n, .int .i64 hi2.d] 0
          · exact below_setCells_at (g := g6) (by omega) [.int .i64 hi2.n, .int .i64 hi2.d] 0 _ hbr
        case measure => simp [intOf]; omega
    · obtain rfl : k = x.inputs.length := by omega
      have e1 := Lib.hid (useOk_yes hpos hok.out)
      have e2 := Lib.hid (show used x.inputs = useAt x.inputs x.inputs.length by unfold used; rw [e1.out]; rfl)
      have c1 := fun W => sRatioOk_c (useAt x.inputs x.inputs.length).1 W (hokk.out hpos _ (Nat.le_refl _)).1
      rw [useAt_ok hok.out hpos _ (Nat.le_refl _)] at c1
      clear hok hsw
      generalize useAt x.inputs x.inputs.length = r at *
      go_upto_region 13 with fail
      have hBW13 : w.heap.size ≤ wr.heap.size := zr
      have hT13_0 := T2
      have hT13_1 := T3
      have hT13_2 := T5
      have hT13_3 := T6
      obtain ⟨I13, hI13⟩ : ∃ I : Act → (Nat → Bool) → Act → World → Prop, I = (fun a0 L a w' => FrameOf a0 a [42, 43, 44, 45, 4] ∧ Below (w.heap.size) wr w' ∧ (L 0 = true → a.tmps[42]?.getD undef = .agg #[.int .i64 r.1.n, .int .i64 r.1.d]) ∧ (L 1 = true → a.tmps[43]?.getD undef = .agg #[.int .i64 r.2.n, .int .i64 r.2.d]) ∧ (L 2 = true → a.tmps[44]?.getD undef = .agg #[.int .i64 r.1.n, .int .i64 r.1.d]) ∧ (L 3 = true → a.tmps[45]?.getD undef = .bool true) ∧ (L 6 = true → a.tmps[4]?.getD undef = .bool true) ∧ (L 3 = true → L 2 = true) ∧ (L 4 = true → L 0 = true) ∧ (L 5 = true → L 1 = true) ∧ (L 6 = true → L 3 = true) ∧ (L 4 = false → HasT w' (w.heap.size + 1) 41 [.int .i64 0, .int .i64 0]) ∧ (L 4 = true → HasT w' (w.heap.size + 1) 41 [.int .i64 r.1.n, .int .i64 r.1.d]) ∧ (L 5 = false → HasT w' (w.heap.size + 1 + 1) 41 [.int .i64 0, .int .i64 0]) ∧ (L 5 = true → HasT w' (w.heap.size + 1 + 1) 41 [.int .i64 r.2.n, .int .i64 r.2.d]) ∧ HasT w' (g5) 41 [.int .i64 r.1.n, .int .i64 r.1.d] ∧ HasT w' (g6) 41 [.int .i64 r.2.n, .int .i64 r.2.d]) := ⟨_, rfl⟩
      refine wp_region_I0 (by kernel_rfl) (by kernel_rfl) I13 ?h0 ?hs ?he
      case h0 =>
        rw [hI13]
        exact ⟨FrameOf.refl _ _, (Below.refl _ _).drew, fun h => absurd h (by simp), fun h => absurd h (by simp), fun h => absurd h (by simp), fun h => absurd h (by simp), fun h => absurd h (by simp), fun h => absurd h (by simp), fun h => absurd h (by simp), fun h => absurd h (by simp), fun h => absurd h (by simp), fun _ => hT13_0, fun h => absurd h (by simp), fun _ => hT13_1, fun h => absurd h (by simp), hT13_2, hT13_3⟩
      case hs =>
        intro L a w' i o ho hLi hd hI'
        rw [hI13] at hI'
        obtain ⟨hF, hB, ci0, ci1, ci2, ci3, ci6, cp3_2, cp4_0, cp5_1, cp6_3, cy0, cz0, cy1, cz1, cy2, cy3⟩ := hI'
        have hi : i < 7 := by
          rcases Nat.lt_or_ge i 7 with h | h
          · exact h
          · rw [List.getElem?_eq_none (by simpa using h)] at ho; cases ho
        have zB := hB.size
        have hBw : w.heap.size ≤ w'.heap.size := Nat.le_trans hBW13 zB
        obtain rfl | rfl | rfl | rfl | rfl | rfl | rfl : i = 0 ∨ i = 1 ∨ i = 2 ∨ i = 3 ∨ i = 4 ∨ i = 5 ∨ i = 6 := by omega
        · simp only [List.getElem?_cons_zero, Option.some.injEq] at ho
          subst ho
          rw [if_pos (by simp [Region.wanted])]
          have e0 : a.tmps[5]?.getD undef = .pointer (some ⟨g5, 0, none⟩) := hF.get (by decide)
          have HT2 := cy2
          have HH2 := HT2.has
          have lH2 := HH2.1
          obtain ⟨cH2_0, fH2_0⟩ := HH2.2 0 _ rfl
          obtain ⟨cH2_1, fH2_1⟩ := HH2.2 1 _ rfl
          simp [go_sem, Array.getD_eq_getD_getElem?, e0, cH2_0, cH2_1]
          rw [hI13]
          exact ⟨hF.put (by decide) _, hB, fun _ => put_get_self (hF.lt (by simp)) _, fun h => (put_get_ne (by decide) _).trans (ci1 (by simpa using h)), fun h => (put_get_ne (by decide) _).trans (ci2 (by simpa using h)), fun h => (put_get_ne (by decide) _).trans (ci3 (by simpa using h)), fun h => (put_get_ne (by decide) _).trans (ci6 (by simpa using h)), fun h => by have hh := cp3_2 (by simpa using h); simp [hh], fun _ => by simp, fun h => by have hh := cp5_1 (by simpa using h); simp [hh], fun h => by have hh := cp6_3 (by simpa using h); simp [hh], fun h => cy0 (by simpa using h), fun h => cz0 (by simpa using h), fun h => cy1 (by simpa using h), fun h => cz1 (by simpa using h), cy2, cy3⟩
        · simp only [List.getElem?_cons_zero, List.getElem?_cons_succ, Option.some.injEq] at ho
          subst ho
          rw [if_pos (by simp [Region.wanted])]
          have e0 : a.tmps[6]?.getD undef = .pointer (some ⟨g6, 0, none⟩) := hF.get (by decide)
          have HT3 := cy3
          have HH3 := HT3.has
          have lH3 := HH3.1
          obtain ⟨cH3_0, fH3_0⟩ := HH3.2 0 _ rfl
          obtain ⟨cH3_1, fH3_1⟩ := HH3.2 1 _ rfl
          simp [go_sem, Array.getD_eq_getD_getElem?, e0, cH3_0, cH3_1]
          rw [hI13]
          exact ⟨hF.put (by decide) _, hB, fun h => (put_get_ne (by decide) _).trans (ci0 (by simpa using h)), fun _ => put_get_self (hF.lt (by simp)) _, fun h => (put_get_ne (by decide) _).trans (ci2 (by simpa using h)), fun h => (put_get_ne (by decide) _).trans (ci3 (by simpa using h)), fun h => (put_get_ne (by decide) _).trans (ci6 (by simpa using h)), fun h => by have hh := cp3_2 (by simpa using h); simp [hh], fun h => by have hh := cp4_0 (by simpa using h); simp [hh], fun _ => by simp, fun h => by have hh := cp6_3 (by simpa using h); simp [hh], fun h => cy0 (by simpa using h), fun h => cz0 (by simpa using h), fun h => cy1 (by simpa using h), fun h => cz1 (by simpa using h), cy2, cy3⟩
        · simp only [List.getElem?_cons_zero, List.getElem?_cons_succ, Option.some.injEq] at ho
          subst ho
          rw [if_pos (by simp [Region.wanted])]
          have e0 : a.tmps[5]?.getD undef = .pointer (some ⟨g5, 0, none⟩) := hF.get (by decide)
          have HT2 := cy2
          have HH2 := HT2.has
          have lH2 := HH2.1
          obtain ⟨cH2_0, fH2_0⟩ := HH2.2 0 _ rfl
          obtain ⟨cH2_1, fH2_1⟩ := HH2.2 1 _ rfl
          simp [go_sem, Array.getD_eq_getD_getElem?, e0, cH2_0, cH2_1]
          rw [hI13]
          exact ⟨hF.put (by decide) _, hB, fun h => (put_get_ne (by decide) _).trans (ci0 (by simpa using h)), fun h => (put_get_ne (by decide) _).trans (ci1 (by simpa using h)), fun _ => put_get_self (hF.lt (by simp)) _, fun h => (put_get_ne (by decide) _).trans (ci3 (by simpa using h)), fun h => (put_get_ne (by decide) _).trans (ci6 (by simpa using h)), fun _ => by simp, fun h => by have hh := cp4_0 (by simpa using h); simp [hh], fun h => by have hh := cp5_1 (by simpa using h); simp [hh], fun h => by have hh := cp6_3 (by simpa using h); simp [hh], fun h => cy0 (by simpa using h), fun h => cz0 (by simpa using h), fun h => cy1 (by simpa using h), fun h => cz1 (by simpa using h), cy2, cy3⟩
        · simp only [List.getElem?_cons_zero, List.getElem?_cons_succ, Option.some.injEq] at ho
          subst ho
          rw [if_pos (by simp [Region.wanted])]
          have d2 := hd { on := 2, ground := .data } (by simp) (by decide)
          have v2 := ci2 d2
          simp [go_sem, Array.getD_eq_getD_getElem?, v2]
          refine (c1 _).mono ?_
          rintro e wx ⟨rfl, hbx⟩
          rw [hI13]
          exact ⟨hF.put (by decide) _, hB.trans (hbx.mono hBw), fun h => (put_get_ne (by decide) _).trans (ci0 (by simpa using h)), fun h => (put_get_ne (by decide) _).trans (ci1 (by simpa using h)), fun h => (put_get_ne (by decide) _).trans (ci2 (by simpa using h)), fun _ => put_get_self (hF.lt (by simp)) _, fun h => (put_get_ne (by decide) _).trans (ci6 (by simpa using h)), fun _ => by simp [d2], fun h => by have hh := cp4_0 (by simpa using h); simp [hh], fun h => by have hh := cp5_1 (by simpa using h); simp [hh], fun _ => by simp, fun h => (cy0 (by simpa using h)).below hbx, fun h => (cz0 (by simpa using h)).below hbx, fun h => (cy1 (by simpa using h)).below hbx, fun h => (cz1 (by simpa using h)).below hbx, (cy2).below hbx, (cy3).below hbx⟩
        · simp only [List.getElem?_cons_zero, List.getElem?_cons_succ, Option.some.injEq] at ho
          subst ho
          rw [if_pos (by simp [Region.wanted])]
          have e0 : a.tmps[2]?.getD undef = .pointer (some ⟨w.heap.size + 1, 0, none⟩) := hF.get (by decide)
          have d0 := hd { on := 0, ground := .data } (by simp) (by decide)
          have v0 := ci0 d0
          have HT0 := cy0 hLi
          have HH0 := HT0.has
          have lH0 := HH0.1
          obtain ⟨cH0_0, fH0_0⟩ := HH0.2 0 _ rfl
          obtain ⟨cH0_1, fH0_1⟩ := HH0.2 1 _ rfl
          simp [go_sem, Array.getD_eq_getD_getElem?, e0, v0, cH0_0, fH0_0, cH0_1, fH0_1]
          rw [hI13]
          exact ⟨hF, below_setCells_at (by omega) [_, _] 0 _ hB, fun h => ci0 (by simpa using h), fun h => ci1 (by simpa using h), fun h => ci2 (by simpa using h), fun h => ci3 (by simpa using h), fun h => ci6 (by simpa using h), fun h => by have hh := cp3_2 (by simpa using h); simp [hh], fun _ => by simp [d0], fun h => by have hh := cp5_1 (by simpa using h); simp [hh], fun h => by have hh := cp6_3 (by simpa using h); simp [hh], fun h => by simp at h, fun _ => HT0.store (us := [.int .i64 r.1.n, .int .i64 r.1.d]) rfl, fun h => (cy1 (by simpa using h)).other (g' := w.heap.size + 1) (by omega) [.int .i64 r.1.n, .int .i64 r.1.d] 0, fun h => (cz1 (by simpa using h)).other (g' := w.heap.size + 1) (by omega) [.int .i64 r.1.n, .int .i64 r.1.d] 0, (cy2).other (g' := w.heap.size + 1) (by omega) [.int .i64 r.1.n, .int .i64 r.1.d] 0, (cy3).other (g' := w.heap.size + 1) (by omega) [.int .i64 r.1.n, .int .i64 r.1.d] 0⟩
        · simp only [List.getElem?_cons_zero, List.getElem?_cons_succ, Option.some.injEq] at ho
          subst ho
          rw [if_pos (by simp [Region.wanted])]
          have e0 : a.tmps[3]?.getD undef = .pointer (some ⟨w.heap.size + 1 + 1, 0, none⟩) := hF.get (by decide)
          have d1 := hd { on := 1, ground := .data } (by simp) (by decide)
          have v1 := ci1 d1
          have HT1 := cy1 hLi
          have HH1 := HT1.has
          have lH1 := HH1.1
          obtain ⟨cH1_0, fH1_0⟩ := HH1.2 0 _ rfl
          obtain ⟨cH1_1, fH1_1⟩ := HH1.2 1 _ rfl
          simp [go_sem, Array.getD_eq_getD_getElem?, e0, v1, cH1_0, fH1_0, cH1_1, fH1_1]
          rw [hI13]
          exact ⟨hF, below_setCells_at (by omega) [_, _] 0 _ hB, fun h => ci0 (by simpa using h), fun h => ci1 (by simpa using h), fun h => ci2 (by simpa using h), fun h => ci3 (by simpa using h), fun h => ci6 (by simpa using h), fun h => by have hh := cp3_2 (by simpa using h); simp [hh], fun h => by have hh := cp4_0 (by simpa using h); simp [hh], fun _ => by simp [d1], fun h => by have hh := cp6_3 (by simpa using h); simp [hh], fun h => (cy0 (by simpa using h)).other (g' := w.heap.size + 1 + 1) (by omega) [.int .i64 r.2.n, .int .i64 r.2.d] 0, fun h => (cz0 (by simpa using h)).other (g' := w.heap.size + 1 + 1) (by omega) [.int .i64 r.2.n, .int .i64 r.2.d] 0, fun h => by simp at h, fun _ => HT1.store (us := [.int .i64 r.2.n, .int .i64 r.2.d]) rfl, (cy2).other (g' := w.heap.size + 1 + 1) (by omega) [.int .i64 r.2.n, .int .i64 r.2.d] 0, (cy3).other (g' := w.heap.size + 1 + 1) (by omega) [.int .i64 r.2.n, .int .i64 r.2.d] 0⟩
        · simp only [List.getElem?_cons_zero, List.getElem?_cons_succ, Option.some.injEq] at ho
          subst ho
          rw [if_pos (by simp [Region.wanted])]
          have d3 := hd { on := 3, ground := .data } (by simp) (by decide)
          have v3 := ci3 d3
          simp [go_sem, Array.getD_eq_getD_getElem?, v3]
          rw [hI13]
          exact ⟨hF.put (by decide) _, hB, fun h => (put_get_ne (by decide) _).trans (ci0 (by simpa using h)), fun h => (put_get_ne (by decide) _).trans (ci1 (by simpa using h)), fun h => (put_get_ne (by decide) _).trans (ci2 (by simpa using h)), fun h => (put_get_ne (by decide) _).trans (ci3 (by simpa using h)), fun _ => put_get_self (hF.lt (by simp)) _, fun h => by have hh := cp3_2 (by simpa using h); simp [hh], fun h => by have hh := cp4_0 (by simpa using h); simp [hh], fun h => by have hh := cp5_1 (by simpa using h); simp [hh], fun _ => by simp [d3], fun h => cy0 (by simpa using h), fun h => cz0 (by simpa using h), fun h => cy1 (by simpa using h), fun h => cz1 (by simpa using h), cy2, cy3⟩
      case he =>
        intro L a' w13 hL hI'
        rw [hI13] at hI'
        obtain ⟨hF, hb13, ci0, ci1, ci2, ci3, ci6, cp3_2, cp4_0, cp5_1, cp6_3, cy0, cz0, cy1, cz1, cy2, cy3⟩ := hI'
        have e13_6 := ci6 (hL 6 (by decide))
        have HT13_0 := cz0 (hL 4 (by decide))
        have HT13_1 := cz1 (hL 5 (by decide))
        have HT13_2 := cy2
        have HT13_3 := cy3
        have hout := hF.outG (by simp)
        simp only [List.foldl_cons, List.foldl_nil, e13_6] at hout
        rw [hout]
        generalize a'.tmps[42]?.getD undef = x13_42
        generalize a'.tmps[43]?.getD undef = x13_43
        generalize a'.tmps[44]?.getD undef = x13_44
        generalize a'.tmps[45]?.getD undef = x13_45
        clear hout hI13 hF hL ci0 ci1 ci2 ci3 ci6 cp3_2 cp4_0 cp5_1 cp6_3 cy0 cz0 cy1 cz1 cy2 cy3
        go_simp
        have HR2 := HT13_0.has
        have HR3 := HT13_1.has
        obtain ⟨cHR2_0, fHR2_0⟩ := HR2.2 0 _ rfl
        obtain ⟨cHR2_1, fHR2_1⟩ := HR2.2 1 _ rfl
        obtain ⟨cHR3_0, fHR3_0⟩ := HR3.2 0 _ rfl
        obtain ⟨cHR3_1, fHR3_1⟩ := HR3.2 1 _ rfl
        have l2 := HR2.1
        have l3 := HR3.1
        have BF := hbr.trans hb13
        clear HT13_0 HT13_1 HT13_2 HT13_3 T2 T3 T5 T6
        go_wp2
        refine bodyPost_ret (v := .tuple #[.agg #[.int .i64 r.1.n, .int .i64 r.1.d], .agg #[.int .i64 r.2.n, .int .i64 r.2.d], .bool true]) (by simp [results, Try.results23, go_sem, *]) rfl ⟨by rw [e1.out, e2.out], BF⟩
set_option maxRecDepth 100000 in
set_option maxHeartbeats 8000000 in
theorem iUsed_c (x : Track) (A : TrackA) (w : World) (hx : trackLen x ≤ 1048576) (hin : TrackIn x) (hs0 : TrackSl w x A) :
    Calls Try.prog 25 #[trackV x A] w fun e w' => e = .returned (.tuple #[ratioV (used x.inputs).1, ratioV (used x.inputs).2, .bool (useOk x.inputs)]) ∧ Below w.heap.size w w' := by
  obtain ⟨ai, ⟨B, bc⟩⟩ := A
  have hs : Sl 2 ratioC w B x.inputs := hs0.inputs
  have hl : x.inputs.length ≤ 1048576 := by simp only [trackLen] at hx; omega
  have HI := Lib.hid hin.inputs
  clear hx hin hs0
  obtain ⟨W0, hW⟩ : ∃ W0, W0 = (((w.alloc (.cells #[.slice ai.A (List.length x.spots) ai.c, .slice B (List.length x.inputs) bc] 46)).alloc (.cells #[.int .i64 0, .int .i64 0] 41)).alloc (.cells #[.int .i64 0, .int .i64 0] 41)) := ⟨_, rfl⟩
  have HP : Has W0 w.heap.size [.slice ai.A (List.length x.spots) ai.c, .slice B (List.length x.inputs) bc] := by rw [hW]; repeat (first | ((with_reducible refine Has.new_at ?_ _ _ rfl); (first | rfl | (focus (simp; done)))) | (with_reducible refine Has.set_ ?_ ?_ _) | (with_reducible refine Has.alloc ?_ _) | (with_reducible refine Has.below ?_ (by assumption)) | (focus (simp; done)) | (focus (simp; omega)))
  have T2 : HasT W0 (w.heap.size + 1) 41 [.int .i64 0, .int .i64 0] := by
    have h1 := HasT.new (w.alloc (.cells #[.slice ai.A (List.length x.spots) ai.c, .slice B (List.length x.inputs) bc] 46)) [.int .i64 0, .int .i64 0] 41
    simp only [World.size_alloc] at h1
    rw [hW]; exact h1.alloc _
  have T3 : HasT W0 (w.heap.size + 1 + 1) 41 [.int .i64 0, .int .i64 0] := by
    have h1 := HasT.new ((w.alloc (.cells #[.slice ai.A (List.length x.spots) ai.c, .slice B (List.length x.inputs) bc] 46)).alloc (.cells #[.int .i64 0, .int .i64 0] 41)) [.int .i64 0, .int .i64 0] 41
    simp only [World.size_alloc] at h1
    rw [hW]; exact h1
  have b0 : Below w.heap.size w W0 := by rw [hW]; (repeat (first | (with_reducible exact Below.refl _ _) | (with_reducible assumption) | (with_reducible refine below_al ?_ _) | (with_reducible refine Below.drew ?_) | (with_reducible refine below_drewN ?_ _) | (with_reducible refine below_st ?_ ?_ _) | (with_reducible refine below_tr ?_ (by assumption)) | (with_reducible exact Nat.le_refl _) | (focus (simp; done)) | (focus (simp; omega))))
  have z0 := Lib.hid (show W0.heap.size = w.heap.size + 1 + 1 + 1 by rw [hW]; simp)
  have hs1 := hs.below b0
  have hW' := Lib.hid hW
  clear hW
  have lP := HP.1
  obtain ⟨cHP_0, fHP_0⟩ := HP.2 0 _ rfl
  obtain ⟨cHP_1, fHP_1⟩ := HP.2 1 _ rfl
  by_cases h0 : x.inputs.length = 0
  · have e1 := Lib.hid (show useOk x.inputs = false by rw [List.length_eq_zero_iff.1 h0]; rfl)
    have e2 := Lib.hid (show used x.inputs = (ratio0, ratio0) by unfold used; rw [e1.out]; rfl)
    have hz : (((x.inputs.length : Nat) : Int) == 0) = true := by rw [beq_iff_eq]; omega
    clear h0
    go_enter Try.func25, Try.ntmps25
    go_upto_region 1 with fail
    rw [← hW'.out]
    clear hW'
    have H2 := T2.has
    have H3 := T3.has
    obtain ⟨cH2_0, fH2_0⟩ := H2.2 0 _ rfl
    obtain ⟨cH2_1, fH2_1⟩ := H2.2 1 _ rfl
    obtain ⟨cH3_0, fH3_0⟩ := H3.2 0 _ rfl
    obtain ⟨cH3_1, fH3_1⟩ := H3.2 1 _ rfl
    have l2 := H2.1
    have l3 := H3.1
    go_wp2
    refine bodyPost_ret (v := .tuple #[.agg #[.int .i64 0, .int .i64 0], .agg #[.int .i64 0, .int .i64 0], .bool false]) (by simp [results, Try.results25, go_sem, *]) rfl ⟨by rw [e1.out, e2.out]; rfl, ?_⟩
    repeat (first | (with_reducible exact Below.refl _ _) | (with_reducible assumption) | (with_reducible refine below_al ?_ _) | (with_reducible refine Below.drew ?_) | (with_reducible refine below_drewN ?_ _) | (with_reducible refine below_st ?_ ?_ _) | (with_reducible refine below_tr ?_ (by assumption)) | (with_reducible exact Nat.le_refl _) | (focus (simp; done)) | (focus (simp; omega)))
  have hpos : 0 < x.inputs.length := by omega
  have hz : (((x.inputs.length : Nat) : Int) == 0) = false := by rw [beq_eq_false_iff_ne]; omega
  have hokk := Lib.hid (fun (h0 : 0 < x.inputs.length) k hk => useAt_in HI.out h0 k hk)
  have q0 := Lib.hid (show useAt x.inputs 0 = (x.inputs[0], x.inputs[0]) by simp only [useAt, use_get hpos])
  obtain ⟨g, off, hB, hblt, hc⟩ := hs1.at_ hpos
  have g0 := hc 0 _ rfl
  have g1 := hc 1 _ rfl
  simp only [Nat.zero_mul, Nat.add_zero] at g0 g1
  clear hc
  subst hB
  generalize hy0 : x.inputs[0] = y0 at *
  clear hy0
  go_enter Try.func25, Try.ntmps25
  go_upto_region 1 with fail
  rw [← hW'.out]
  clear hW'
  have hne : ¬ (x.inputs.length = 0) := h0
  have i0 : (0 : Int) < (x.inputs.length : Int) := by omega
  go_upto_region 3 with fail
  (try rw [hz])
  have hBW3 : W0.heap.size ≤ W0.heap.size := Nat.le_refl _
  have hT3_0 := T2
  have hT3_1 := T3
  obtain ⟨I3, hI3⟩ : ∃ I : Act → (Nat → Bool) → Act → World → Prop, I = (fun a0 L a w' => FrameOf a0 a [15, 16, 17, 18, 19, 20, 21, 22, 5, 6] ∧ Below (W0.heap.size) W0 w' ∧ (L 0 = true → a.tmps[15]?.getD undef = .pointer (some ⟨w.heap.size, 1, none⟩)) ∧ (L 1 = true → a.tmps[16]?.getD undef = .slice (some ⟨g, off, none⟩) (List.length x.inputs) bc) ∧ (L 2 = true → a.tmps[17]?.getD undef = .pointer (some ⟨g, off, none⟩)) ∧ (L 3 = true → a.tmps[18]?.getD undef = .agg #[.int .i64 y0.n, .int .i64 y0.d]) ∧ (L 4 = true → a.tmps[19]?.getD undef = .pointer (some ⟨w.heap.size, 1, none⟩)) ∧ (L 5 = true → a.tmps[20]?.getD undef = .slice (some ⟨g, off, none⟩) (List.length x.inputs) bc) ∧ (L 6 = true → a.tmps[21]?.getD undef = .pointer (some ⟨g, off, none⟩)) ∧ (L 7 = true → a.tmps[22]?.getD undef = .agg #[.int .i64 y0.n, .int .i64 y0.d]) ∧ (L 1 = true → L 0 = true) ∧ (L 2 = true → L 1 = true) ∧ (L 3 = true → L 2 = true) ∧ (L 5 = true → L 4 = true) ∧ (L 6 = true → L 5 = true) ∧ (L 7 = true → L 6 = true) ∧ (L 10 = true → L 3 = true) ∧ (L 10 = true → L 8 = true) ∧ (L 11 = true → L 7 = true) ∧ (L 11 = true → L 9 = true) ∧ (L 8 = true → ∃ g : Nat, a.tmps[5]?.getD undef = .pointer (some ⟨g, 0, none⟩) ∧ W0.heap.size ≤ g ∧ (L 10 = false → HasT w' g 41 [.int .i64 0, .int .i64 0]) ∧ (L 10 = true → HasT w' (g) 41 [.int .i64 y0.n, .int .i64 y0.d])) ∧ (L 9 = true → ∃ g : Nat, a.tmps[6]?.getD undef = .pointer (some ⟨g, 0, none⟩) ∧ W0.heap.size ≤ g ∧ (L 11 = false → HasT w' g 41 [.int .i64 0, .int .i64 0]) ∧ (L 11 = true → HasT w' (g) 41 [.int .i64 y0.n, .int .i64 y0.d])) ∧ (L 8 = true → L 9 = true → a.tmps[5]?.getD undef ≠ a.tmps[6]?.getD undef) ∧ HasT w' (w.heap.size + 1) 41 [.int .i64 0, .int .i64 0] ∧ HasT w' (w.heap.size + 1 + 1) 41 [.int .i64 0, .int .i64 0]) := ⟨_, rfl⟩
  refine wp_region_I0 (by kernel_rfl) (by kernel_rfl) I3 ?h0 ?hs ?he
  case h0 =>
    rw [hI3]
    exact ⟨FrameOf.refl _ _, (Below.refl _ _).drew, fun h => absurd h (by simp), fun h => absurd h (by simp), fun h => absurd h (by simp), fun h => absurd h (by simp), fun h => absurd h (by simp), fun h => absurd h (by simp), fun h => absurd h (by simp), fun h => absurd h (by simp), fun h => absurd h (by simp), fun h => absurd h (by simp), fun h => absurd h (by simp), fun h => absurd h (by simp), fun h => absurd h (by simp), fun h => absurd h (by simp), fun h => absurd h (by simp), fun h => absurd h (by simp), fun h => absurd h (by simp), fun h => absurd h (by simp), fun h => absurd h (by simp), fun h => absurd h (by simp), fun h => absurd h (by simp), hT3_0, hT3_1⟩
  case hs =>
    intro L a w' i o ho hLi hd hI'
    rw [hI3] at hI'
    obtain ⟨hF, hB, ci0, ci1, ci2, ci3, ci4, ci5, ci6, ci7, cp1_0, cp2_1, cp3_2, cp5_4, cp6_5, cp7_6, cp10_3, cp10_8, cp11_7, cp11_9, ca2, ca3, cn2_3, cy0, cy1⟩ := hI'
    have hi : i < 12 := by
      rcases Nat.lt_or_ge i 12 with h | h
      · exact h
      · rw [List.getElem?_eq_none (by simpa using h)] at ho; cases ho
    have zB := hB.size
    have hBw : W0.heap.size ≤ w'.heap.size := Nat.le_trans hBW3 zB
    obtain rfl | rfl | rfl | rfl | rfl | rfl | rfl | rfl | rfl | rfl | rfl | rfl : i = 0 ∨ i = 1 ∨ i = 2 ∨ i = 3 ∨ i = 4 ∨ i = 5 ∨ i = 6 ∨ i = 7 ∨ i = 8 ∨ i = 9 ∨ i = 10 ∨ i = 11 := by omega
    · simp only [List.getElem?_cons_zero, Option.some.injEq] at ho
      subst ho
      rw [if_pos (by simp [Region.wanted])]
      have e0 : a.tmps[1]?.getD undef = .pointer (some ⟨w.heap.size, 0, none⟩) := hF.get (by decide)
      simp [go_sem, Array.getD_eq_getD_getElem?, e0]
      rw [hI3]
      exact ⟨hF.put (by decide) _, hB, fun _ => put_get_self (hF.lt (by simp)) _, fun h => (put_get_ne (by decide) _).trans (ci1 (by simpa using h)), fun h => (put_get_ne (by decide) _).trans (ci2 (by simpa using h)), fun h => (put_get_ne (by decide) _).trans (ci3 (by simpa using h)), fun h => (put_get_ne (by decide) _).trans (ci4 (by simpa using h)), fun h => (put_get_ne (by decide) _).trans (ci5 (by simpa using h)), fun h => (put_get_ne (by decide) _).trans (ci6 (by simpa using h)), fun h => (put_get_ne (by decide) _).trans (ci7 (by simpa using h)), fun _ => by simp, fun h => by have hh := cp2_1 (by simpa using h); simp [hh], fun h => by have hh := cp3_2 (by simpa using h); simp [hh], fun h => by have hh := cp5_4 (by simpa using h); simp [hh], fun h => by have hh := cp6_5 (by simpa using h); simp [hh], fun h => by have hh := cp7_6 (by simpa using h); simp [hh], fun h => by have hh := cp10_3 (by simpa using h); simp [hh], fun h => by have hh := cp10_8 (by simpa using h); simp [hh], fun h => by have hh := cp11_7 (by simpa using h); simp [hh], fun h => by have hh := cp11_9 (by simpa using h); simp [hh], fun h => by obtain ⟨g2, e2, hg2, y2, z2⟩ := ca2 (by simpa using h); exact ⟨g2, (put_get_ne (by decide) _).trans e2, hg2, fun h => y2 (by simpa using h), fun h => z2 (by simpa using h)⟩, fun h => by obtain ⟨g2, e2, hg2, y2, z2⟩ := ca3 (by simpa using h); exact ⟨g2, (put_get_ne (by decide) _).trans e2, hg2, fun h => y2 (by simpa using h), fun h => z2 (by simpa using h)⟩, fun h1 h2 q => cn2_3 (by simpa using h1) (by simpa using h2) (((put_get_ne (a := a) (j := 5) (k := 15) (by decide) _).symm.trans q).trans (put_get_ne (a := a) (j := 6) (k := 15) (by decide) _)), cy0, cy1⟩
    · simp only [List.getElem?_cons_zero, List.getElem?_cons_succ, Option.some.injEq] at ho
      subst ho
      rw [if_pos (by simp [Region.wanted])]
      have hr0 := (hB.cell (p := ⟨w.heap.size, 1, none⟩) lP).trans cHP_1
      have hlg : w.heap.size < w'.heap.size := Nat.lt_of_lt_of_le lP zB
      have d0 := hd { on := 0, ground := .data } (by simp) (by decide)
      have v0 := ci0 d0
      simp [go_sem, Array.getD_eq_getD_getElem?, v0, hr0]
      rw [hI3]
      exact ⟨hF.put (by decide) _, hB, fun h => (put_get_ne (by decide) _).trans (ci0 (by simpa using h)), fun _ => put_get_self (hF.lt (by simp)) _, fun h => (put_get_ne (by decide) _).trans (ci2 (by simpa using h)), fun h => (put_get_ne (by decide) _).trans (ci3 (by simpa using h)), fun h => (put_get_ne (by decide) _).trans (ci4 (by simpa using h)), fun h => (put_get_ne (by decide) _).trans (ci5 (by simpa using h)), fun h => (put_get_ne (by decide) _).trans (ci6 (by simpa using h)), fun h => (put_get_ne (by decide) _).trans (ci7 (by simpa using h)), fun _ => by simp [d0], fun _ => by simp, fun h => by have hh := cp3_2 (by simpa using h); simp [hh], fun h => by have hh := cp5_4 (by simpa using h); simp [hh], fun h => by have hh := cp6_5 (by simpa using h); simp [hh], fun h => by have hh := cp7_6 (by simpa using h); simp [hh], fun h => by have hh := cp10_3 (by simpa using h); simp [hh], fun h => by have hh := cp10_8 (by simpa using h); simp [hh], fun h => by have hh := cp11_7 (by simpa using h); simp [hh], fun h => by have hh := cp11_9 (by simpa using h); simp [hh], fun h => by obtain ⟨g2, e2, hg2, y2, z2⟩ := ca2 (by simpa using h); exact ⟨g2, (put_get_ne (by decide) _).trans e2, hg2, fun h => y2 (by simpa using h), fun h => z2 (by simpa using h)⟩, fun h => by obtain ⟨g2, e2, hg2, y2, z2⟩ := ca3 (by simpa using h); exact ⟨g2, (put_get_ne (by decide) _).trans e2, hg2, fun h => y2 (by simpa using h), fun h => z2 (by simpa using h)⟩, fun h1 h2 q => cn2_3 (by simpa using h1) (by simpa using h2) (((put_get_ne (a := a) (j := 5) (k := 16) (by decide) _).symm.trans q).trans (put_get_ne (a := a) (j := 6) (k := 16) (by decide) _)), cy0, cy1⟩
    · simp only [List.getElem?_cons_zero, List.getElem?_cons_succ, Option.some.injEq] at ho
      subst ho
      rw [if_pos (by simp [Region.wanted])]
      have d1 := hd { on := 1, ground := .data } (by simp) (by decide)
      have v1 := ci1 d1
      simp [go_sem, Array.getD_eq_getD_getElem?, v1, hpos]
      rw [hI3]
      exact ⟨hF.put (by decide) _, hB, fun h => (put_get_ne (by decide) _).trans (ci0 (by simpa using h)), fun h => (put_get_ne (by decide) _).trans (ci1 (by simpa using h)), fun _ => put_get_self (hF.lt (by simp)) _, fun h => (put_get_ne (by decide) _).trans (ci3 (by simpa using h)), fun h => (put_get_ne (by decide) _).trans (ci4 (by simpa using h)), fun h => (put_get_ne (by decide) _).trans (ci5 (by simpa using h)), fun h => (put_get_ne (by decide) _).trans (ci6 (by simpa using h)), fun h => (put_get_ne (by decide) _).trans (ci7 (by simpa using h)), fun h => by have hh := cp1_0 (by simpa using h); simp [hh], fun _ => by simp [d1], fun _ => by simp, fun h => by have hh := cp5_4 (by simpa using h); simp [hh], fun h => by have hh := cp6_5 (by simpa using h); simp [hh], fun h => by have hh := cp7_6 (by simpa using h); simp [hh], fun h => by have hh := cp10_3 (by simpa using h); simp [hh], fun h => by have hh := cp10_8 (by simpa using h); simp [hh], fun h => by have hh := cp11_7 (by simpa using h); simp [hh], fun h => by have hh := cp11_9 (by simpa using h); simp [hh], fun h => by obtain ⟨g2, e2, hg2, y2, z2⟩ := ca2 (by simpa using h); exact ⟨g2, (put_get_ne (by decide) _).trans e2, hg2, fun h => y2 (by simpa using h), fun h => z2 (by simpa using h)⟩, fun h => by obtain ⟨g2, e2, hg2, y2, z2⟩ := ca3 (by simpa using h); exact ⟨g2, (put_get_ne (by decide) _).trans e2, hg2, fun h => y2 (by simpa using h), fun h => z2 (by simpa using h)⟩, fun h1 h2 q => cn2_3 (by simpa using h1) (by simpa using h2) (((put_get_ne (a := a) (j := 5) (k := 17) (by decide) _).symm.trans q).trans (put_get_ne (a := a) (j := 6) (k := 17) (by decide) _)), cy0, cy1⟩
    · simp only [List.getElem?_cons_zero, List.getElem?_cons_succ, Option.some.injEq] at ho
      subst ho
      rw [if_pos (by simp [Region.wanted])]
      have hr0 := (hB.cell (p := ⟨g, off, none⟩) hblt).trans g0
      have hr1 := (hB.cell (p := ⟨g, off + 1, none⟩) hblt).trans g1
      have hlg : g < w'.heap.size := Nat.lt_of_lt_of_le hblt zB
      have d2 := hd { on := 2, ground := .data } (by simp) (by decide)
      have v2 := ci2 d2
      simp [go_sem, Array.getD_eq_getD_getElem?, v2, hr0, hr1]
      rw [hI3]
      exact ⟨hF.put (by decide) _, hB, fun h => (put_get_ne (by decide) _).trans (ci0 (by simpa using h)), fun h => (put_get_ne (by decide) _).trans (ci1 (by simpa using h)), fun h => (put_get_ne (by decide) _).trans (ci2 (by simpa using h)), fun _ => put_get_self (hF.lt (by simp)) _, fun h => (put_get_ne (by decide) _).trans (ci4 (by simpa using h)), fun h => (put_get_ne (by decide) _).trans (ci5 (by simpa using h)), fun h => (put_get_ne (by decide) _).trans (ci6 (by simpa using h)), fun h => (put_get_ne (by decide) _).trans (ci7 (by simpa using h)), fun h => by have hh := cp1_0 (by simpa using h); simp [hh], fun h => by have hh := cp2_1 (by simpa using h); simp [hh], fun _ => by simp [d2], fun h => by have hh := cp5_4 (by simpa using h); simp [hh], fun h => by have hh := cp6_5 (by simpa using h); simp [hh], fun h => by have hh := cp7_6 (by simpa using h); simp [hh], fun _ => by simp, fun h => by have hh := cp10_8 (by simpa using h); simp [hh], fun h => by have hh := cp11_7 (by simpa using h); simp [hh], fun h => by have hh := cp11_9 (by simpa using h); simp [hh], fun h => by obtain ⟨g2, e2, hg2, y2, z2⟩ := ca2 (by simpa using h); exact ⟨g2, (put_get_ne (by decide) _).trans e2, hg2, fun h => y2 (by simpa using h), fun h => z2 (by simpa using h)⟩, fun h => by obtain ⟨g2, e2, hg2, y2, z2⟩ := ca3 (by simpa using h); exact ⟨g2, (put_get_ne (by decide) _).trans e2, hg2, fun h => y2 (by simpa using h), fun h => z2 (by simpa using h)⟩, fun h1 h2 q => cn2_3 (by simpa using h1) (by simpa using h2) (((put_get_ne (a := a) (j := 5) (k := 18) (by decide) _).symm.trans q).trans (put_get_ne (a := a) (j := 6) (k := 18) (by decide) _)), cy0, cy1⟩
    · simp only [List.getElem?_cons_zero, List.getElem?_cons_succ, Option.some.injEq] at ho
      subst ho
      rw [if_pos (by simp [Region.wanted])]
      have e0 : a.tmps[1]?.getD undef = .pointer (some ⟨w.heap.size, 0, none⟩) := hF.get (by decide)
      simp [go_sem, Array.getD_eq_getD_getElem?, e0]
      rw [hI3]
      exact ⟨hF.put (by decide) _, hB, fun h => (put_get_ne (by decide) _).trans (ci0 (by simpa using h)), fun h => (put_get_ne (by decide) _).trans (ci1 (by simpa using h)), fun h => (put_get_ne (by decide) _).trans (ci2 (by simpa using h)), fun h => (put_get_ne (by decide) _).trans (ci3 (by simpa using h)), fun _ => put_get_self (hF.lt (by simp)) _, fun h => (put_get_ne (by decide) _).trans (ci5 (by simpa using h)), fun h => (put_get_ne (by decide) _).trans (ci6 (by simpa using h)), fun h => (put_get_ne (by decide) _).trans (ci7 (by simpa using h)), fun h => by have hh := cp1_0 (by simpa using h); simp [hh], fun h => by have hh := cp2_1 (by simpa using h); simp [hh], fun h => by have hh := cp3_2 (by simpa using h); simp [hh], fun _ => by simp, fun h => by have hh := cp6_5 (by simpa using h); simp [hh], fun h => by have hh := cp7_6 (by simpa using h); simp [hh], fun h => by have hh := cp10_3 (by simpa using h); simp [hh], fun h => by have hh := cp10_8 (by simpa using h); simp [hh], fun h => by have hh := cp11_7 (by simpa using h); simp [hh], fun h => by have hh := cp11_9 (by simpa using h); simp [hh], fun h => by obtain ⟨g2, e2, hg2, y2, z2⟩ := ca2 (by simpa using h); exact ⟨g2, (put_get_ne (by decide) _).trans e2, hg2, fun h => y2 (by simpa using h), fun h => z2 (by simpa using h)⟩, fun h => by obtain ⟨g2, e2, hg2, y2, z2⟩ := ca3 (by simpa using h); exact ⟨g2, (put_get_ne (by decide) _).trans e2, hg2, fun h => y2 (by simpa using h), fun h => z2 (by simpa using h)⟩, fun h1 h2 q => cn2_3 (by simpa using h1) (by simpa using h2) (((put_get_ne (a := a) (j := 5) (k := 19) (by decide) _).symm.trans q).trans (put_get_ne (a := a) (j := 6) (k := 19) (by decide) _)), cy0, cy1⟩
    · simp only [List.getElem?_cons_zero, List.getElem?_cons_succ, Option.some.injEq] at ho
      subst ho
      rw [if_pos (by simp [Region.wanted])]
      have hr0 := (hB.cell (p := ⟨w.heap.size, 1, none⟩) lP).trans cHP_1
      have hlg : w.heap.size < w'.heap.size := Nat.lt_of_lt_of_le lP zB
      have d4 := hd { on := 4, ground := .data } (by simp) (by decide)
      have v4 := ci4 d4
      simp [go_sem, Array.getD_eq_getD_getElem?, v4, hr0]
      rw [hI3]
      exact ⟨hF.put (by decide) _, hB, fun h => (put_get_ne (by decide) _).trans (ci0 (by simpa using h)), fun h => (put_get_ne (by decide) _).trans (ci1 (by simpa using h)), fun h => (put_get_ne (by decide) _).trans (ci2 (by simpa using h)), fun h => (put_get_ne (by decide) _).trans (ci3 (by simpa using h)), fun h => (put_get_ne (by decide) _).trans (ci4 (by simpa using h)), fun _ => put_get_self (hF.lt (by simp)) _, fun h => (put_get_ne (by decide) _).trans (ci6 (by simpa using h)), fun h => (put_get_ne (by decide) _).trans (ci7 (by simpa using h)), fun h => by have hh := cp1_0 (by simpa using h); simp [hh], fun h => by have hh := cp2_1 (by simpa using h); simp [hh], fun h => by have hh := cp3_2 (by simpa using h); simp [hh], fun _ => by simp [d4], fun _ => by simp, fun h => by have hh := cp7_6 (by simpa using h); simp [hh], fun h => by have hh := cp10_3 (by simpa using h); simp [hh], fun h => by have hh := cp10_8 (by simpa using h); simp [hh], fun h => by have hh := cp11_7 (by simpa using h); simp [hh], fun h => by have hh := cp11_9 (by simpa using h); simp [hh], fun h => by obtain ⟨g2, e2, hg2, y2, z2⟩ := ca2 (by simpa using h); exact ⟨g2, (put_get_ne (by decide) _).trans e2, hg2, fun h => y2 (by simpa using h), fun h => z2 (by simpa using h)⟩, fun h => by obtain ⟨g2, e2, hg2, y2, z2⟩ := ca3 (by simpa using h); exact ⟨g2, (put_get_ne (by decide) _).trans e2, hg2, fun h => y2 (by simpa using h), fun h => z2 (by simpa using h)⟩, fun h1 h2 q => cn2_3 (by simpa using h1) (by simpa using h2) (((put_get_ne (a := a) (j := 5) (k := 20) (by decide) _).symm.trans q).trans (put_get_ne (a := a) (j := 6) (k := 20) (by decide) _)), cy0, cy1⟩
    · simp only [List.getElem?_cons_zero, List.getElem?_cons_succ, Option.some.injEq] at ho
      subst ho
      rw [if_pos (by simp [Region.wanted])]
      have d5 := hd { on := 5, ground := .data } (by simp) (by decide)
      have v5 := ci5 d5
      simp [go_sem, Array.getD_eq_getD_getElem?, v5, hpos]
      rw [hI3]
      exact ⟨hF.put (by decide) _, hB, fun h => (put_get_ne (by decide) _).trans (ci0 (by simpa using h)), fun h => (put_get_ne (by decide) _).trans (ci1 (by simpa using h)), fun h => (put_get_ne (by decide) _).trans (ci2 (by simpa using h)), fun h => (put_get_ne (by decide) _).trans (ci3 (by simpa using h)), fun h => (put_get_ne (by decide) _).trans (ci4 (by simpa using h)), fun h => (put_get_ne (by decide) _).trans (ci5 (by simpa using h)), fun _ => put_get_self (hF.lt (by simp)) _, fun h => (put_get_ne (by decide) _).trans (ci7 (by simpa using h)), fun h => by have hh := cp1_0 (by simpa using h); simp [hh], fun h => by have hh := cp2_1 (by simpa using h); simp [hh], fun h => by have hh := cp3_2 (by simpa using h); simp [hh], fun h => by have hh := cp5_4 (by simpa using h); simp [hh], fun _ => by simp [d5], fun _ => by simp, fun h => by have hh := cp10_3 (by simpa using h); simp [hh], fun h => by have hh := cp10_8 (by simpa using h); simp [hh], fun h => by have hh := cp11_7 (by simpa using h); simp [hh], fun h => by have hh := cp11_9 (by simpa using h); simp [hh], fun h => by obtain ⟨g2, e2, hg2, y2, z2⟩ := ca2 (by simpa using h); exact ⟨g2, (put_get_ne (by decide) _).trans e2, hg2, fun h => y2 (by simpa using h), fun h => z2 (by simpa using h)⟩, fun h => by obtain ⟨g2, e2, hg2, y2, z2⟩ := ca3 (by simpa using h); exact ⟨g2, (put_get_ne (by decide) _).trans e2, hg2, fun h => y2 (by simpa using h), fun h => z2 (by simpa using h)⟩, fun h1 h2 q => cn2_3 (by simpa using h1) (by simpa using h2) (((put_get_ne (a := a) (j := 5) (k := 21) (by decide) _).symm.trans q).trans (put_get_ne (a := a) (j := 6) (k := 21) (by decide) _)), cy0, cy1⟩
    · simp only [List.getElem?_cons_zero, List.getElem?_cons_succ, Option.some.injEq] at ho
      subst ho
      rw [if_pos (by simp [Region.wanted])]
      have hr0 := (hB.cell (p := ⟨g, off, none⟩) hblt).trans g0
      have hr1 := (hB.cell (p := ⟨g, off + 1, none⟩) hblt).trans g1
      have hlg : g < w'.heap.size := Nat.lt_of_lt_of_le hblt zB
      have d6 := hd { on := 6, ground := .data } (by simp) (by decide)
      have v6 := ci6 d6
      simp [go_sem, Array.getD_eq_getD_getElem?, v6, hr0, hr1]
      rw [hI3]
      exact ⟨hF.put (by decide) _, hB, fun h => (put_get_ne (by decide) _).trans (ci0 (by simpa using h)), fun h => (put_get_ne (by decide) _).trans (ci1 (by simpa using h)), fun h => (put_get_ne (by decide) _).trans (ci2 (by simpa using h)), fun h => (put_get_ne (by decide) _).trans (ci3 (by simpa using h)), fun h => (put_get_ne (by decide) _).trans (ci4 (by simpa using h)), fun h => (put_get_ne (by decide) _).trans (ci5 (by simpa using h)), fun h => (put_get_ne (by decide) _).trans (ci6 (by simpa using h)), fun _ => put_get_self (hF.lt (by simp)) _, fun h => by have hh := cp1_0 (by simpa using h); simp [hh], fun h => by have hh := cp2_1 (by simpa using h); simp [hh], fun h => by have hh := cp3_2 (by simpa using h); simp [hh], fun h => by have hh := cp5_4 (by simpa using h); simp [hh], fun h => by have hh := cp6_5 (by simpa using h); simp [hh], fun _ => by simp [d6], fun h => by have hh := cp10_3 (by simpa using h); simp [hh], fun h => by have hh := cp10_8 (by simpa using h); simp [hh], fun _ => by simp, fun h => by have hh := cp11_9 (by simpa using h); simp [hh], fun h => by obtain ⟨g2, e2, hg2, y2, z2⟩ := ca2 (by simpa using h); exact ⟨g2, (put_get_ne (by decide) _).trans e2, hg2, fun h => y2 (by simpa using h), fun h => z2 (by simpa using h)⟩, fun h => by obtain ⟨g2, e2, hg2, y2, z2⟩ := ca3 (by simpa using h); exact ⟨g2, (put_get_ne (by decide) _).trans e2, hg2, fun h => y2 (by simpa using h), fun h => z2 (by simpa using h)⟩, fun h1 h2 q => cn2_3 (by simpa using h1) (by simpa using h2) (((put_get_ne (a := a) (j := 5) (k := 22) (by decide) _).symm.trans q).trans (put_get_ne (a := a) (j := 6) (k := 22) (by decide) _)), cy0, cy1⟩
    · simp only [List.getElem?_cons_zero, List.getElem?_cons_succ, Option.some.injEq] at ho
      subst ho
      rw [if_pos (by simp [Region.wanted])]
      simp [go_sem]
      rw [hI3]
      exact ⟨hF.put (by decide) _, hB.alloc hBw _, fun h => (put_get_ne (by decide) _).trans (ci0 (by simpa using h)), fun h => (put_get_ne (by decide) _).trans (ci1 (by simpa using h)), fun h => (put_get_ne (by decide) _).trans (ci2 (by simpa using h)), fun h => (put_get_ne (by decide) _).trans (ci3 (by simpa using h)), fun h => (put_get_ne (by decide) _).trans (ci4 (by simpa using h)), fun h => (put_get_ne (by decide) _).trans (ci5 (by simpa using h)), fun h => (put_get_ne (by decide) _).trans (ci6 (by simpa using h)), fun h => (put_get_ne (by decide) _).trans (ci7 (by simpa using h)), fun h => by have hh := cp1_0 (by simpa using h); simp [hh], fun h => by have hh := cp2_1 (by simpa using h); simp [hh], fun h => by have hh := cp3_2 (by simpa using h); simp [hh], fun h => by have hh := cp5_4 (by simpa using h); simp [hh], fun h => by have hh := cp6_5 (by simpa using h); simp [hh], fun h => by have hh := cp7_6 (by simpa using h); simp [hh], fun h => by have hh := cp10_3 (by simpa using h); simp [hh], fun _ => by simp, fun h => by have hh := cp11_7 (by simpa using h); simp [hh], fun h => by have hh := cp11_9 (by simpa using h); simp [hh], fun _ => ⟨w'.heap.size, put_get_self (hF.lt (by simp)) _, zB, fun _ => HasT.new w' [.int .i64 0, .int .i64 0] 41, fun h => by have hq := cp10_8 (by simpa using h); rw [hLi] at hq; cases hq⟩, fun h => by obtain ⟨g2, e2, hg2, y2, z2⟩ := ca3 (by simpa using h); exact ⟨g2, (put_get_ne (by decide) _).trans e2, hg2, fun h => (y2 (by simpa using h)).alloc _, fun h => (z2 (by simpa using h)).alloc _⟩, fun h1 h2 q => by obtain ⟨g2, e2, _, y2, z2⟩ := ca3 (by simpa using h2); have hl : g2 < w'.heap.size := (by cases hq : L 11; exact lt_of_heap (y2 hq); exact lt_of_heap (z2 hq)); have q2 := ((put_get_self (a := a) (k := 5) (hF.lt (by simp)) _).symm.trans q).trans ((put_get_ne (a := a) (j := 6) (k := 5) (by decide) _).trans e2); first | (simp at q2; done) | (simp at q2; omega), (cy0).alloc _, (cy1).alloc _⟩
    · simp only [List.getElem?_cons_zero, List.getElem?_cons_succ, Option.some.injEq] at ho
      subst ho
      rw [if_pos (by simp [Region.wanted])]
      simp [go_sem]
      rw [hI3]
      exact ⟨hF.put (by decide) _, hB.alloc hBw _, fun h => (put_get_ne (by decide) _).trans (ci0 (by simpa using h)), fun h => (put_get_ne (by decide) _).trans (ci1 (by simpa using h)), fun h => (put_get_ne (by decide) _).trans (ci2 (by simpa using h)), fun h => (put_get_ne (by decide) _).trans (ci3 (by simpa using h)), fun h => (put_get_ne (by decide) _).trans (ci4 (by simpa using h)), fun h => (put_get_ne (by decide) _).trans (ci5 (by simpa using h)), fun h => (put_get_ne (by decide) _).trans (ci6 (by simpa using h)), fun h => (put_get_ne (by decide) _).trans (ci7 (by simpa using h)), fun h => by have hh := cp1_0 (by simpa using h); simp [hh], fun h => by have hh := cp2_1 (by simpa using h); simp [hh], fun h => by have hh := cp3_2 (by simpa using h); simp [hh], fun h => by have hh := cp5_4 (by simpa using h); simp [hh], fun h => by have hh := cp6_5 (by simpa using h); simp [hh], fun h => by have hh := cp7_6 (by simpa using h); simp [hh], fun h => by have hh := cp10_3 (by simpa using h); simp [hh], fun h => by have hh := cp10_8 (by simpa using h); simp [hh], fun h => by have hh := cp11_7 (by simpa using h); simp [hh], fun _ => by simp, fun h => by obtain ⟨g2, e2, hg2, y2, z2⟩ := ca2 (by simpa using h); exact ⟨g2, (put_get_ne (by decide) _).trans e2, hg2, fun h => (y2 (by simpa using h)).alloc _, fun h => (z2 (by simpa using h)).alloc _⟩, fun _ => ⟨w'.heap.size, put_get_self (hF.lt (by simp)) _, zB, fun _ => HasT.new w' [.int .i64 0, .int .i64 0] 41, fun h => by have hq := cp11_9 (by simpa using h); rw [hLi] at hq; cases hq⟩, fun h1 h2 q => by obtain ⟨g2, e2, _, y2, z2⟩ := ca2 (by simpa using h1); have hl : g2 < w'.heap.size := (by cases hq : L 10; exact lt_of_heap (y2 hq); exact lt_of_heap (z2 hq)); have q2 := (((put_get_ne (a := a) (j := 5) (k := 6) (by decide) _).trans e2).symm.trans q).trans (put_get_self (a := a) (k := 6) (hF.lt (by simp)) _); first | (simp at q2; done) | (simp at q2; omega), (cy0).alloc _, (cy1).alloc _⟩
    · simp only [List.getElem?_cons_zero, List.getElem?_cons_succ, Option.some.injEq] at ho
      subst ho
      rw [if_pos (by simp [Region.wanted])]
      have d3 := hd { on := 3, ground := .data } (by simp) (by decide)
      have v3 := ci3 d3
      have d8 := hd { on := 8, ground := .data } (by simp) (by decide)
      obtain ⟨gk, ek, hgk, yk, _⟩ := ca2 d8
      have HT2 := yk hLi
      have HH2 := HT2.has
      have lH2 := HH2.1
      obtain ⟨cH2_0, fH2_0⟩ := HH2.2 0 _ rfl
      obtain ⟨cH2_1, fH2_1⟩ := HH2.2 1 _ rfl
      simp [go_sem, Array.getD_eq_getD_getElem?, v3, ek, cH2_0, fH2_0, cH2_1, fH2_1]
      rw [hI3]
      exact ⟨hF, below_setCells_at (by omega) [_, _] 0 _ hB, fun h => ci0 (by simpa using h), fun h => ci1 (by simpa using h), fun h => ci2 (by simpa using h), fun h => ci3 (by simpa using h), fun h => ci4 (by simpa using h), fun h => ci5 (by simpa using h), fun h => ci6 (by simpa using h), fun h => ci7 (by simpa using h), fun h => by have hh := cp1_0 (by simpa using h); simp [hh], fun h => by have hh := cp2_1 (by simpa using h); simp [hh], fun h => by have hh := cp3_2 (by simpa using h); simp [hh], fun h => by have hh := cp5_4 (by simpa using h); simp [hh], fun h => by have hh := cp6_5 (by simpa using h); simp [hh], fun h => by have hh := cp7_6 (by simpa using h); simp [hh], fun _ => by simp [d3], fun _ => by simp [d8], fun h => by have hh := cp11_7 (by simpa using h); simp [hh], fun h => by have hh := cp11_9 (by simpa using h); simp [hh], fun _ => ⟨gk, ek, hgk, fun h => by simp at h, fun _ => HT2.store (us := [.int .i64 y0.n, .int .i64 y0.d]) rfl⟩, fun h => by obtain ⟨g2, e2, hg2, y2, z2⟩ := ca3 (by simpa using h); have hne : gk ≠ g2 := (by intro q; subst q; exact cn2_3 d8 (by simpa using h) (ek.trans e2.symm)); exact ⟨g2, e2, hg2, fun h => (y2 (by simpa using h)).other hne [.int .i64 y0.n, .int .i64 y0.d] 0, fun h => (z2 (by simpa using h)).other hne [.int .i64 y0.n, .int .i64 y0.d] 0⟩, fun h1 h2 => cn2_3 (by simpa using h1) (by simpa using h2), (cy0).other (g' := gk) (by have hl := lt_of_heap hT3_0; omega) [.int .i64 y0.n, .int .i64 y0.d] 0, (cy1).other (g' := gk) (by have hl := lt_of_heap hT3_1; omega) [.int .i64 y0.n, .int .i64 y0.d] 0⟩
    · simp only [List.getElem?_cons_zero, List.getElem?_cons_succ, Option.some.injEq] at ho
      subst ho
      rw [if_pos (by simp [Region.wanted])]
      have d7 := hd { on := 7, ground := .data } (by simp) (by decide)
      have v7 := ci7 d7
      have d9 := hd { on := 9, ground := .data } (by simp) (by decide)
      obtain ⟨gk, ek, hgk, yk, _⟩ := ca3 d9
      have HT3 := yk hLi
      have HH3 := HT3.has
      have lH3 := HH3.1
      obtain ⟨cH3_0, fH3_0⟩ := HH3.2 0 _ rfl
      obtain ⟨cH3_1, fH3_1⟩ := HH3.2 1 _ rfl
      simp [go_sem, Array.getD_eq_getD_getElem?, v7, ek, cH3_0, fH3_0, cH3_1, fH3_1]
      rw [hI3]
      exact ⟨hF, below_setCells_at (by omega) [_, _] 0 _ hB, fun h => ci0 (by simpa using h), fun h => ci1 (by simpa using h), fun h => ci2 (by simpa using h), fun h => ci3 (by simpa using h), fun h => ci4 (by simpa using h), fun h => ci5 (by simpa using h), fun h => ci6 (by simpa using h), fun h => ci7 (by simpa using h), fun h => by have hh := cp1_0 (by simpa using h); simp [hh], fun h => by have hh := cp2_1 (by simpa using h); simp [hh], fun h => by have hh := cp3_2 (by simpa using h); simp [hh], fun h => by have hh := cp5_4 (by simpa using h); simp [hh], fun h => by have hh := cp6_5 (by simpa using h); simp [hh], fun h => by have hh := cp7_6 (by simpa using h); simp [hh], fun h => by have hh := cp10_3 (by simpa using h); simp [hh], fun h => by have hh := cp10_8 (by simpa using h); simp [hh], fun _ => by simp [d7], fun _ => by simp [d9], fun h => by obtain ⟨g2, e2, hg2, y2, z2⟩ := ca2 (by simpa using h); have hne : gk ≠ g2 := (by intro q; subst q; exact cn2_3 (by simpa using h) d9 (e2.trans ek.symm)); exact ⟨g2, e2, hg2, fun h => (y2 (by simpa using h)).other hne [.int .i64 y0.n, .int .i64 y0.d] 0, fun h => (z2 (by simpa using h)).other hne [.int .i64 y0.n, .int .i64 y0.d] 0⟩, fun _ => ⟨gk, ek, hgk, fun h => by simp at h, fun _ => HT3.store (us := [.int .i64 y0.n, .int .i64 y0.d]) rfl⟩, fun h1 h2 => cn2_3 (by simpa using h1) (by simpa using h2), (cy0).other (g' := gk) (by have hl := lt_of_heap hT3_0; omega) [.int .i64 y0.n, .int .i64 y0.d] 0, (cy1).other (g' := gk) (by have hl := lt_of_heap hT3_1; omega) [.int .i64 y0.n, .int .i64 y0.d] 0⟩
  case he =>
    intro L a' w3 hL hI'
    rw [hI3] at hI'
    obtain ⟨hF, hb3, ci0, ci1, ci2, ci3, ci4, ci5, ci6, ci7, cp1_0, cp2_1, cp3_2, cp5_4, cp6_5, cp7_6, cp10_3, cp10_8, cp11_7, cp11_9, ca2, ca3, cn2_3, cy0, cy1⟩ := hI'
    obtain ⟨g3_2, e3_b2, hg3_2, _, cz2⟩ := ca2 (hL 8 (by decide))
    have HT3_2 := cz2 (hL 10 (by decide))
    obtain ⟨g3_3, e3_b3, hg3_3, _, cz3⟩ := ca3 (hL 9 (by decide))
    have HT3_3 := cz3 (hL 11 (by decide))
    have ne3_2_3 : g3_2 ≠ g3_3 := by intro q; subst q; exact cn2_3 (hL 8 (by decide)) (hL 9 (by decide)) (e3_b2.trans e3_b3.symm)
    have HT3_0 := cy0
    have HT3_1 := cy1
    have hout := hF.outG (by simp)
    simp only [List.foldl_cons, List.foldl_nil, e3_b2, e3_b3] at hout
    rw [hout]
    generalize a'.tmps[15]?.getD undef = x3_15
    generalize a'.tmps[16]?.getD undef = x3_16
    generalize a'.tmps[17]?.getD undef = x3_17
    generalize a'.tmps[18]?.getD undef = x3_18
    generalize a'.tmps[19]?.getD undef = x3_19
    generalize a'.tmps[20]?.getD undef = x3_20
    generalize a'.tmps[21]?.getD undef = x3_21
    generalize a'.tmps[22]?.getD undef = x3_22
    clear hout hI3 hF hL ci0 ci1 ci2 ci3 ci4 ci5 ci6 ci7 cp1_0 cp2_1 cp3_2 cp5_4 cp6_5 cp7_6 cp10_3 cp10_8 cp11_7 cp11_9 ca2 ca3 cn2_3 cy0 cy1
    go_simp
    have T2x := HT3_0
    replace z0 := z0.out
    have hg5 : w.heap.size + 1 + 1 + 1 ≤ g3_2 := by omega
    have hg6 : w.heap.size + 1 + 1 + 1 ≤ g3_3 := by omega
    have ne56 : g3_2 ≠ g3_3 := ne3_2_3
    have b1 := b0.trans (hb3.mono b0.size)
    have HPx := HP.below hb3
    clear T2 T3 HP hT3_0 hT3_1 hBW3 e3_b2 e3_b3 hg3_2 hg3_3 ne3_2_3 hb3 b0 z0 cHP_0 cHP_1 fHP_0 fHP_1 lP hs1 g0 g1 hblt T2x
    rename HasT w3 (w.heap.size + 1) _ _ => T2
    rename HasT w3 (w.heap.size + 1 + 1) _ _ => T3
    rename HasT w3 g3_2 _ _ => T5
    rename HasT w3 g3_3 _ _ => T6
    rename Has w3 w.heap.size _ => HP
    generalize g3_2 = g5 at *
    generalize g3_3 = g6 at *
    clear W0
    obtain ⟨cHP_0, fHP_0⟩ := HP.2 0 _ rfl
    obtain ⟨cHP_1, fHP_1⟩ := HP.2 1 _ rfl
    have lP := HP.1
    go_wp2
    go_loopw [4, 8, 26] (fun v4 _ i wr => ∃ k : Nat, v4 = .bool false ∧ k ≤ x.inputs.length ∧ i = .int .i64 k ∧ Hid (∀ j, j < k → ratioOk (x.inputs.getD j ratio0) = true) ∧ HasT wr g5 41 [.int .i64 (useAt x.inputs k).1.n, .int .i64 (useAt x.inputs k).1.d] ∧ HasT wr g6 41 [.int .i64 (useAt x.inputs k).2.n, .int .i64 (useAt x.inputs k).2.d] ∧ HasT wr (w.heap.size + 1) 41 [.int .i64 0, .int .i64 0] ∧ HasT wr (w.heap.size + 1 + 1) 41 [.int .i64 0, .int .i64 0] ∧ Below w.heap.size w wr) (fun _ _ i _ => x.inputs.length - (intOf i).toNat)
    case atStart => exact ⟨0, rfl, Nat.zero_le _, rfl, by simp [Hid], by rw [q0.out]; exact T5, by rw [q0.out]; exact T6, T2, T3, b1⟩
    case round =>
      clear T5 T6 T2 T3 b1 HP cHP_0 cHP_1 fHP_0 fHP_1 lP q0
      obtain ⟨k, rfl, hk, rfl, hok, T5, T6, T2, T3, hbr⟩ := hrel
      have hsw := hs.below hbr
      have zr := hbr.size
      by_cases hlt : k < x.inputs.length
      · obtain ⟨g', off', hE, hblt', hc'⟩ := hsw.at_ hlt
        cases hE
        have g0 := hc' 0 _ rfl
        have g1 := hc' 1 _ rfl
        have hxi := HI.out _ (List.getElem_mem hlt)
        have c1 := fun W => iRatioOk_c x.inputs[k] W hxi
        have hui := hokk.out hpos k (by omega)
        have c2 := fun W => iRatioMin_c (useAt x.inputs k).1 x.inputs[k] W hui.1 hxi
        have c3 := fun W => iRatioMax_c (useAt x.inputs k).2 x.inputs[k] W hui.2 hxi
        have hst := Lib.hid (show useAt x.inputs (k + 1) = (ratioMin (useAt x.inputs k).1 x.inputs[k], ratioMax (useAt x.inputs k).2 x.inputs[k]) by simp only [useAt, use_get hlt])
        have hbad := Lib.hid (fun h => @useOk_no x.inputs _ hlt h)
        have hok1 := fun (h : ratioOk x.inputs[k] = true) => show ∀ j, j < k + 1 → ratioOk (x.inputs.getD j ratio0) = true from by
          intro j hj
          rcases Nat.lt_or_ge j k with h2 | h2
          · exact hok.out j h2
          · obtain rfl : j = k := by omega
            rw [use_get hlt]; exact h
        have i1 : (k : Int) < (x.inputs.length : Int) := by omega
        clear hc' hok hui hxi hokk
        simp only [Nat.add_zero] at g0
        generalize x.inputs[k] = q at *
        generalize (useAt x.inputs k).1 = lo at *
        generalize (useAt x.inputs k).2 = hi at *
        have TX := HasT.new wr [.int .i64 q.n, .int .i64 q.d] 41
        have nx5 : g5 < wr.heap.size := lt_of_heap T5
        have nx6 : g6 < wr.heap.size := lt_of_heap T6
        replace T5 := T5.alloc (.cells #[.int .i64 q.n, .int .i64 q.d] 41)
        replace T6 := T6.alloc (.cells #[.int .i64 q.n, .int .i64 q.d] 41)
        replace T2 := T2.alloc (.cells #[.int .i64 q.n, .int .i64 q.d] 41)
        replace T3 := T3.alloc (.cells #[.int .i64 q.n, .int .i64 q.d] 41)
        replace hbr := hbr.alloc zr (.cells #[.int .i64 q.n, .int .i64 q.d] 41)
        go_upto_region 7 with fail
        generalize hW : wr.alloc (.cells #[.int .i64 q.n, .int .i64 q.d] 41) = wa at *
        clear hW hsw g0 g1 hblt' zr
        generalize hgx : wr.heap.size = gx at *
        clear hgx
        have HX := TX.has
        obtain ⟨cHX_0, fHX_0⟩ := HX.2 0 _ rfl
        obtain ⟨cHX_1, fHX_1⟩ := HX.2 1 _ rfl
        have lX := HX.1
        cases hv : ratioOk q
        · rw [hv] at c1
          have e1 := Lib.hid (hbad.out hv)
          have e2 := Lib.hid (show used x.inputs = (ratio0, ratio0) by unfold used; rw [e1.out]; rfl)
          clear hbad hok1 c2 c3 hst
          go_wp2_with (fail)
          refine (c1 _).mono ?_
          rintro e w1 ⟨rfl, hb_w1⟩
          replace T5 := T5.below hb_w1
          replace T6 := T6.below hb_w1
          replace T2 := T2.below hb_w1
          replace T3 := T3.below hb_w1
          replace TX := TX.below hb_w1
          replace hbr := hbr.trans (hb_w1.mono hbr.size)
          clear hb_w1
          clear HX cHX_0 cHX_1 fHX_0 fHX_1 lX
          have H2 := T2.has
          have H3 := T3.has
          obtain ⟨cH2_0, fH2_0⟩ := H2.2 0 _ rfl
          obtain ⟨cH2_1, fH2_1⟩ := H2.2 1 _ rfl
          obtain ⟨cH3_0, fH3_0⟩ := H3.2 0 _ rfl
          obtain ⟨cH3_1, fH3_1⟩ := H3.2 1 _ rfl
          have l2 := H2.1
          have l3 := H3.1
          go_wp2
          refine bodyPost_ret (v := .tuple #[.agg #[.int .i64 0, .int .i64 0], .agg #[.int .i64 0, .int .i64 0], .bool false]) (by simp [results, Try.results25, go_sem, *]) rfl ⟨by rw [e1.out, e2.out]; rfl, ?_⟩
          repeat (first | (with_reducible exact Below.refl _ _) | (with_reducible assumption) | (with_reducible refine below_al ?_ _) | (with_reducible refine Below.drew ?_) | (with_reducible refine below_drewN ?_ _) | (with_reducible refine below_st ?_ ?_ _) | (with_reducible refine below_tr ?_ (by assumption)) | (with_reducible exact Nat.le_refl _) | (focus (simp; done)) | (focus (simp; omega)))
        · rw [hv] at c1
          have hok2 := Lib.hid (hok1 hv)
          clear hbad hok1
          go_wp2_with (fail)
          refine (c1 _).mono ?_
          rintro e w1 ⟨rfl, hb_w1⟩
          replace T5 := T5.below hb_w1
          replace T6 := T6.below hb_w1
          replace T2 := T2.below hb_w1
          replace T3 := T3.below hb_w1
          replace TX := TX.below hb_w1
          replace hbr := hbr.trans (hb_w1.mono hbr.size)
          clear hb_w1
          clear HX cHX_0 cHX_1 fHX_0 fHX_1 lX
          go_upto_region 9 with fail
          have hBW9 : w.heap.size ≤ w1.heap.size := hbr.size
          have hT9_0 := T5
          have hT9_1 := T6
          have hT9_2 := T2
          have hT9_3 := T3
          have hT9_4 := TX
          generalize ratioMin lo q = lo2 at *
          generalize ratioMax hi q = hi2 at *
          obtain ⟨I9, hI9⟩ : ∃ I : Act → (Nat → Bool) → Act → World → Prop, I = (fun a0 L a w' => FrameOf a0 a [35, 36, 37, 38, 39, 40] ∧ Below (w.heap.size) w1 w' ∧ (L 0 = true → a.tmps[35]?.getD undef = .agg #[.int .i64 lo.n, .int .i64 lo.d]) ∧ (L 1 = true → a.tmps[36]?.getD undef = .agg #[.int .i64 q.n, .int .i64 q.d]) ∧ (L 2 = true → a.tmps[37]?.getD undef = .agg #[.int .i64 lo2.n, .int .i64 lo2.d]) ∧ (L 3 = true → a.tmps[38]?.getD undef = .agg #[.int .i64 hi.n, .int .i64 hi.d]) ∧ (L 4 = true → a.tmps[39]?.getD undef = .agg #[.int .i64 q.n, .int .i64 q.d]) ∧ (L 5 = true → a.tmps[40]?.getD undef = .agg #[.int .i64 hi2.n, .int .i64 hi2.d]) ∧ (L 2 = true → L 0 = true) ∧ (L 2 = true → L 1 = true) ∧ (L 5 = true → L 3 = true) ∧ (L 5 = true → L 4 = true) ∧ (L 6 = true → L 2 = true) ∧ (L 7 = true → L 5 = true) ∧ (L 6 = false → HasT w' (g5) 41 [.int .i64 lo.n, .int .i64 lo.d]) ∧ (L 6 = true → HasT w' (g5) 41 [.int .i64 lo2.n, .int .i64 lo2.d]) ∧ (L 7 = false → HasT w' (g6) 41 [.int .i64 hi.n, .int .i64 hi.d]) ∧ (L 7 = true → HasT w' (g6) 41 [.int .i64 hi2.n, .int .i64 hi2.d]) ∧ HasT w' (w.heap.size + 1) 41 [.int .i64 0, .int .i64 0] ∧ HasT w' (w.heap.size + 1 + 1) 41 [.int .i64 0, .int .i64 0] ∧ HasT w' (gx) 41 [.int .i64 q.n, .int .i64 q.d]) := ⟨_, rfl⟩
          refine wp_region_I0 (by kernel_rfl) (by kernel_rfl) I9 ?h0 ?hs ?he
          case h0 =>
            rw [hI9]
            exact ⟨FrameOf.refl _ _, (Below.refl _ _).drew, fun h => absurd h (by simp), fun h => absurd h (by simp), fun h => absurd h (by simp), fun h => absurd h (by simp), fun h => absurd h (by simp), fun h => absurd h (by simp), fun h => absurd h (by simp), fun h => absurd h (by simp), fun h => absurd h (by simp), fun h => absurd h (by simp), fun h => absurd h (by simp), fun h => absurd h (by simp), fun _ => hT9_0, fun h => absurd h (by simp), fun _ => hT9_1, fun h => absurd h (by simp), hT9_2, hT9_3, hT9_4⟩
          case hs =>
            intro L a w' i o ho hLi hd hI'
            rw [hI9] at hI'
            obtain ⟨hF, hB, ci0, ci1, ci2, ci3, ci4, ci5, cp2_0, cp2_1, cp5_3, cp5_4, cp6_2, cp7_5, cy0, cz0, cy1, cz1, cy2, cy3, cy4⟩ := hI'
            have hi : i < 8 := by
              rcases Nat.lt_or_ge i 8 with h | h
              · exact h
              · rw [List.getElem?_eq_none (by simpa using h)] at ho; cases ho
            have zB := hB.size
            have hBw : w.heap.size ≤ w'.heap.size := Nat.le_trans hBW9 zB
            obtain rfl | rfl | rfl | rfl | rfl | rfl | rfl | rfl : i = 0 ∨ i = 1 ∨ i = 2 ∨ i = 3 ∨ i = 4 ∨ i = 5 ∨ i = 6 ∨ i = 7 := by omega
            · simp only [List.getElem?_cons_zero, Option.some.injEq] at ho
              subst ho
              rw [if_pos (by simp [Region.wanted])]
              have e0 : a.tmps[5]?.getD undef = .pointer (some ⟨g5, 0, none⟩) := hF.get (by decide)
              have HT0 := cy0 (by cases hq : L 6; exact rfl; exact absurd (cp2_0 (cp6_2 hq)) (by rw [hLi]; decide))
              have HH0 := HT0.has
              have lH0 := HH0.1
              obtain ⟨cH0_0, fH0_0⟩ := HH0.2 0 _ rfl
              obtain ⟨cH0_1, fH0_1⟩ := HH0.2 1 _ rfl
              simp [go_sem, Array.getD_eq_getD_getElem?, e0, cH0_0, cH0_1]
              rw [hI9]
              exact ⟨hF.put (by decide) _, hB, fun _ => put_get_self (hF.lt (by simp)) _, fun h => (put_get_ne (by decide) _).trans (ci1 (by simpa using h)), fun h => (put_get_ne (by decide) _).trans (ci2 (by simpa using h)), fun h => (put_get_ne (by decide) _).trans (ci3 (by simpa using h)), fun h => (put_get_ne (by decide) _).trans (ci4 (by simpa using h)), fun h => (put_get_ne (by decide) _).trans (ci5 (by simpa using h)), fun _ => by simp, fun h => by have hh := cp2_1 (by simpa using h); simp [hh], fun h => by have hh := cp5_3 (by simpa using h); simp [hh], fun h => by have hh := cp5_4 (by simpa using h); simp [hh], fun h => by have hh := cp6_2 (by simpa using h); simp [hh], fun h => by have hh := cp7_5 (by simpa using h); simp [hh], fun h => cy0 (by simpa using h), fun h => cz0 (by simpa using h), fun h => cy1 (by simpa using h), fun h => cz1 (by simpa using h), cy2, cy3, cy4⟩
            · simp only [List.getElem?_cons_zero, List.getElem?_cons_succ, Option.some.injEq] at ho
              subst ho
              rw [if_pos (by simp [Region.wanted])]
              have e0 : a.tmps[8]?.getD undef = .pointer (some ⟨gx, 0, none⟩) := hF.get (by decide)
              have HT4 := cy4
              have HH4 := HT4.has
              have lH4 := HH4.1
              obtain ⟨cH4_0, fH4_0⟩ := HH4.2 0 _ rfl
              obtain ⟨cH4_1, fH4_1⟩ := HH4.2 1 _ rfl
              simp [go_sem, Array.getD_eq_getD_getElem?, e0, cH4_0, cH4_1]
              rw [hI9]
              exact ⟨hF.put (by decide) _, hB, fun h => (put_get_ne (by decide) _).trans (ci0 (by simpa using h)), fun _ => put_get_self (hF.lt (by simp)) _, fun h => (put_get_ne (by decide) _).trans (ci2 (by simpa using h)), fun h => (put_get_ne (by decide) _).trans (ci3 (by simpa using h)), fun h => (put_get_ne (by decide) _).trans (ci4 (by simpa using h)), fun h => (put_get_ne (by decide) _).trans (ci5 (by simpa using h)), fun h => by have hh := cp2_0 (by simpa using h); simp [hh], fun _ => by simp, fun h => by have hh := cp5_3 (by simpa using h); simp [hh], fun h => by have hh := cp5_4 (by simpa using h); simp [hh], fun h => by have hh := cp6_2 (by simpa using h); simp [hh], fun h => by have hh := cp7_5 (by simpa using h); simp [hh], fun h => cy0 (by simpa using h), fun h => cz0 (by simpa using h), fun h => cy1 (by simpa using h), fun h => cz1 (by simpa using h), cy2, cy3, cy4⟩
            · simp only [List.getElem?_cons_zero, List.getElem?_cons_succ, Option.some.injEq] at ho
              subst ho
              rw [if_pos (by simp [Region.wanted])]
              have d0 := hd { on := 0, ground := .data } (by simp) (by decide)
              have v0 := ci0 d0
              have d1 := hd { on := 1, ground := .data } (by simp) (by decide)
              have v1 := ci1 d1
              simp [go_sem, Array.getD_eq_getD_getElem?, v0, v1]
              refine (c2 _).mono ?_
              rintro e wx ⟨rfl, hbx⟩
              rw [hI9]
              exact ⟨hF.put (by decide) _, hB.trans (hbx.mono hBw), fun h => (put_get_ne (by decide) _).trans (ci0 (by simpa using h)), fun h => (put_get_ne (by decide) _).trans (ci1 (by simpa using h)), fun _ => put_get_self (hF.lt (by simp)) _, fun h => (put_get_ne (by decide) _).trans (ci3 (by simpa using h)), fun h => (put_get_ne (by decide) _).trans (ci4 (by simpa using h)), fun h => (put_get_ne (by decide) _).trans (ci5 (by simpa using h)), fun _ => by simp [d0], fun _ => by simp [d1], fun h => by have hh := cp5_3 (by simpa using h); simp [hh], fun h => by have hh := cp5_4 (by simpa using h); simp [hh], fun _ => by simp, fun h => by have hh := cp7_5 (by simpa using h); simp [hh], fun h => (cy0 (by simpa using h)).below hbx, fun h => (cz0 (by simpa using h)).below hbx, fun h => (cy1 (by simpa using h)).below hbx, fun h => (cz1 (by simpa using h)).below hbx, (cy2).below hbx, (cy3).below hbx, (cy4).below hbx⟩
            · simp only [List.getElem?_cons_zero, List.getElem?_cons_succ, Option.some.injEq] at ho
              subst ho
              rw [if_pos (by simp [Region.wanted])]
              have e0 : a.tmps[6]?.getD undef = .pointer (some ⟨g6, 0, none⟩) := hF.get (by decide)
              have HT1 := cy1 (by cases hq : L 7; exact rfl; exact absurd (cp5_3 (cp7_5 hq)) (by rw [hLi]; decide))
              have HH1 := HT1.has
              have lH1 := HH1.1
              obtain ⟨cH1_0, fH1_0⟩ := HH1.2 0 _ rfl
              obtain ⟨cH1_1, fH1_1⟩ := HH1.2 1 _ rfl
              simp [go_sem, Array.getD_eq_getD_getElem?, e0, cH1_0, cH1_1]
              rw [hI9]
              exact ⟨hF.put (by decide) _, hB, fun h => (put_get_ne (by decide) _).trans (ci0 (by simpa using h)), fun h => (put_get_ne (by decide) _).trans (ci1 (by simpa using h)), fun h => (put_get_ne (by decide) _).trans (ci2 (by simpa using h)), fun _ => put_get_self (hF.lt (by simp)) _, fun h => (put_get_ne (by decide) _).trans (ci4 (by simpa using h)), fun h => (put_get_ne (by decide) _).trans (ci5 (by simpa using h)), fun h => by have hh := cp2_0 (by simpa using h); simp [hh], fun h => by have hh := cp2_1 (by simpa using h); simp [hh], fun _ => by simp, fun h => by have hh := cp5_4 (by simpa using h); simp [hh], fun h => by have hh := cp6_2 (by simpa using h); simp [hh], fun h => by have hh := cp7_5 (by simpa using h); simp [hh], fun h => cy0 (by simpa using h), fun h => cz0 (by simpa using h), fun h => cy1 (by simpa using h), fun h => cz1 (by simpa using h), cy2, cy3, cy4⟩
            · simp only [List.getElem?_cons_zero, List.getElem?_cons_succ, Option.some.injEq] at ho
              subst ho
              rw [if_pos (by simp [Region.wanted])]
              have e0 : a.tmps[8]?.getD undef = .pointer (some ⟨gx, 0, none⟩) := hF.get (by decide)
              have HT4 := cy4
              have HH4 := HT4.has
              have lH4 := HH4.1
              obtain ⟨cH4_0, fH4_0⟩ := HH4.2 0 _ rfl
              obtain ⟨cH4_1, fH4_1⟩ := HH4.2 1 _ rfl
              simp [go_sem, Array.getD_eq_getD_getElem?, e0, cH4_0, cH4_1]
              rw [hI9]
              exact ⟨hF.put (by decide) _, hB, fun h => (put_get_ne (by decide) _).trans (ci0 (by simpa using h)), fun h => (put_get_ne (by decide) _).trans (ci1 (by simpa using h)), fun h => (put_get_ne (by decide) _).trans (ci2 (by simpa using h)), fun h => (put_get_ne (by decide) _).trans (ci3 (by simpa using h)), fun _ => put_get_self (hF.lt (by simp)) _, fun h => (put_get_ne (by decide) _).trans (ci5 (by simpa using h)), fun h => by have hh := cp2_0 (by simpa using h); simp [hh], fun h => by have hh := cp2_1 (by simpa using h); simp [hh], fun h => by have hh := cp5_3 (by simpa using h); simp [hh], fun _ => by simp, fun h => by have hh := cp6_2 (by simpa using h); simp [hh], fun h => by have hh := cp7_5 (by simpa using h); simp [hh], fun h => cy0 (by simpa using h), fun h => cz0 (by simpa using h), fun h => cy1 (by simpa using h), fun h => cz1 (by simpa using h), cy2, cy3, cy4⟩
            · simp only [List.getElem?_cons_zero, List.getElem?_cons_succ, Option.some.injEq] at ho
              subst ho
              rw [if_pos (by simp [Region.wanted])]
              have d3 := hd { on := 3, ground := .data } (by simp) (by decide)
              have v3 := ci3 d3
              have d4 := hd { on := 4, ground := .data } (by simp) (by decide)
              have v4 := ci4 d4
              simp [go_sem, Array.getD_eq_getD_getElem?, v3, v4]
              refine (c3 _).mono ?_
              rintro e wx ⟨rfl, hbx⟩
              rw [hI9]
              exact ⟨hF.put (by decide) _, hB.trans (hbx.mono hBw), fun h => (put_get_ne (by decide) _).trans (ci0 (by simpa using h)), fun h => (put_get_ne (by decide) _).trans (ci1 (by simpa using h)), fun h => (put_get_ne (by decide) _).trans (ci2 (by simpa using h)), fun h => (put_get_ne (by decide) _).trans (ci3 (by simpa using h)), fun h => (put_get_ne (by decide) _).trans (ci4 (by simpa using h)), fun _ => put_get_self (hF.lt (by simp)) _, fun h => by have hh := cp2_0 (by simpa using h); simp [hh], fun h => by have hh := cp2_1 (by simpa using h); simp [hh], fun _ => by simp [d3], fun _ => by simp [d4], fun h => by have hh := cp6_2 (by simpa using h); simp [hh], fun _ => by simp, fun h => (cy0 (by simpa using h)).below hbx, fun h => (cz0 (by simpa using h)).below hbx, fun h => (cy1 (by simpa using h)).below hbx, fun h => (cz1 (by simpa using h)).below hbx, (cy2).below hbx, (cy3).below hbx, (cy4).below hbx⟩
            · simp only [List.getElem?_cons_zero, List.getElem?_cons_succ, Option.some.injEq] at ho
              subst ho
              rw [if_pos (by simp [Region.wanted])]
              have e0 : a.tmps[5]?.getD undef = .pointer (some ⟨g5, 0, none⟩) := hF.get (by decide)
              have d2 := hd { on := 2, ground := .data } (by simp) (by decide)
              have v2 := ci2 d2
              have HT0 := cy0 hLi
              have HH0 := HT0.has
              have lH0 := HH0.1
              obtain ⟨cH0_0, fH0_0⟩ := HH0.2 0 _ rfl
              obtain ⟨cH0_1, fH0_1⟩ := HH0.2 1 _ rfl
              simp [go_sem, Array.getD_eq_getD_getElem?, e0, v2, cH0_0, fH0_0, cH0_1, fH0_1]
              rw [hI9]
              exact ⟨hF, below_setCells_at (by omega) [_, _] 0 _ hB, fun h => ci0 (by simpa using h), fun h => ci1 (by simpa using h), fun h => ci2 (by simpa using h), fun h => ci3 (by simpa using h), fun h => ci4 (by simpa using h), fun h => ci5 (by simpa using h), fun h => by have hh := cp2_0 (by simpa using h); simp [hh], fun h => by have hh := cp2_1 (by simpa using h); simp [hh], fun h => by have hh := cp5_3 (by simpa using h); simp [hh], fun h => by have hh := cp5_4 (by simpa using h); simp [hh], fun _ => by simp [d2], fun h => by have hh := cp7_5 (by simpa using h); simp [hh], fun h => by simp at h, fun _ => HT0.store (us := [.int .i64 lo2.n, .int .i64 lo2.d]) rfl, fun h => (cy1 (by simpa using h)).other (g' := g5) (by omega) [.int .i64 lo2.n, .int .i64 lo2.d] 0, fun h => (cz1 (by simpa using h)).other (g' := g5) (by omega) [.int .i64 lo2.n, .int .i64 lo2.d] 0, (cy2).other (g' := g5) (by omega) [.int .i64 lo2.n, .int .i64 lo2.d] 0, (cy3).other (g' := g5) (by omega) [.int .i64 lo2.n, .int .i64 lo2.d] 0, (cy4).other (g' := g5) (by omega) [.int .i64 lo2.n, .int .i64 lo2.d] 0⟩
            · simp only [List.getElem?_cons_zero, List.getElem?_cons_succ, Option.some.injEq] at ho
              subst ho
              rw [if_pos (by simp [Region.wanted])]
              have e0 : a.tmps[6]?.getD undef = .pointer (some ⟨g6, 0, none⟩) := hF.get (by decide)
              have d5 := hd { on := 5, ground := .data } (by simp) (by decide)
              have v5 := ci5 d5
              have HT1 := cy1 hLi
              have HH1 := HT1.has
              have lH1 := HH1.1
              obtain ⟨cH1_0, fH1_0⟩ := HH1.2 0 _ rfl
              obtain ⟨cH1_1, fH1_1⟩ := HH1.2 1 _ rfl
              simp [go_sem, Array.getD_eq_getD_getElem?, e0, v5, cH1_0, fH1_0, cH1_1, fH1_1]
              rw [hI9]
              exact ⟨hF, below_setCells_at (by omega) [_, _] 0 _ hB, fun h => ci0 (by simpa using h), fun h => ci1 (by simpa using h), fun h => ci2 (by simpa using h), fun h => ci3 (by simpa using h), fun h => ci4 (by simpa using h), fun h => ci5 (by simpa using h), fun h => by have hh := cp2_0 (by simpa using h); simp [hh], fun h => by have hh := cp2_1 (by simpa using h); simp [hh], fun h => by have hh := cp5_3 (by simpa using h); simp [hh], fun h => by have hh := cp5_4 (by simpa using h); simp [hh], fun h => by have hh := cp6_2 (by simpa using h); simp [hh], fun _ => by simp [d5], fun h => (cy0 (by simpa using h)).other (g' := g6) (by omega) [.int .i64 hi2.n, .int .i64 hi2.d] 0, fun h => (cz0 (by simpa using h)).other (g' := g6) (by omega) [.int .i64 hi2.n, .int .i64 hi2.d] 0, fun h => by simp at h, fun _ => HT1.store (us := [.int .i64 hi2.n, .int .i64 hi2.d]) rfl, (cy2).other (g' := g6) (by omega) [.int .i64 hi2.n, .int .i64 hi2.d] 0, (cy3).other (g' := g6) (by omega) [.int .i64 hi2.n, .int .i64 hi2.d] 0, (cy4).other (g' := g6) (by omega) [.int .i64 hi2.n, .int .i64 hi2.d] 0⟩
          case he =>
            intro L a' w9 hL hI'
            rw [hI9] at hI'
            obtain ⟨hF, hb9, ci0, ci1, ci2, ci3, ci4, ci5, cp2_0, cp2_1, cp5_3, cp5_4, cp6_2, cp7_5, cy0, cz0, cy1, cz1, cy2, cy3, cy4⟩ := hI'
            have HT9_0 := cz0 (hL 6 (by decide))
            have HT9_1 := cz1 (hL 7 (by decide))
            have HT9_2 := cy2
            have HT9_3 := cy3
            have HT9_4 := cy4
            have hout := hF.outG (by simp)
            simp only [List.foldl_cons, List.foldl_nil] at hout
            rw [hout]
            generalize a'.tmps[35]?.getD undef = x9_35
            generalize a'.tmps[36]?.getD undef = x9_36
            generalize a'.tmps[37]?.getD undef = x9_37
            generalize a'.tmps[38]?.getD undef = x9_38
            generalize a'.tmps[39]?.getD undef = x9_39
            generalize a'.tmps[40]?.getD undef = x9_40
            clear hout hI9 hF hL ci0 ci1 ci2 ci3 ci4 ci5 cp2_0 cp2_1 cp5_3 cp5_4 cp6_2 cp7_5 cy0 cz0 cy1 cz1 cy2 cy3 cy4
            go_simp
            go_wp2
            go_roundw
            case rel => exact ⟨k + 1, rfl, by omega, by go_num, hok2, by rw [hst.out]; exact HT9_0, by rw [hst.out]; exact HT9_1, HT9_2, HT9_3, hbr.trans hb9⟩
            case measure => simp [intOf]; omega
      · obtain rfl : k = x.inputs.length := by omega
        have e1 := Lib.hid (useOk_yes hpos hok.out)
        have e2 := Lib.hid (show used x.inputs = useAt x.inputs x.inputs.length by unfold used; rw [e1.out]; rfl)
        clear hok hsw
        generalize useAt x.inputs x.inputs.length = r at *
        go_upto_region 11 with fail
        have hBW11 : w.heap.size ≤ wr.heap.size := zr
        have hT11_0 := T2
        have hT11_1 := T3
        have hT11_2 := T5
        have hT11_3 := T6
        obtain ⟨I11, hI11⟩ : ∃ I : Act → (Nat → Bool) → Act → World → Prop, I = (fun a0 L a w' => FrameOf a0 a [42, 43, 4] ∧ Below (w.heap.size) wr w' ∧ (L 0 = true → a.tmps[42]?.getD undef = .agg #[.int .i64 r.1.n, .int .i64 r.1.d]) ∧ (L 1 = true → a.tmps[43]?.getD undef = .agg #[.int .i64 r.2.n, .int .i64 r.2.d]) ∧ (L 4 = true → a.tmps[4]?.getD undef = .bool true) ∧ (L 2 = true → L 0 = true) ∧ (L 3 = true → L 1 = true) ∧ (L 2 = false → HasT w' (w.heap.size + 1) 41 [.int .i64 0, .int .i64 0]) ∧ (L 2 = true → HasT w' (w.heap.size + 1) 41 [.int .i64 r.1.n, .int .i64 r.1.d]) ∧ (L 3 = false → HasT w' (w.heap.size + 1 + 1) 41 [.int .i64 0, .int .i64 0]) ∧ (L 3 = true → HasT w' (w.heap.size + 1 + 1) 41 [.int .i64 r.2.n, .int .i64 r.2.d]) ∧ HasT w' (g5) 41 [.int .i64 r.1.n, .int .i64 r.1.d] ∧ HasT w' (g6) 41 [.int .i64 r.2.n, .int .i64 r.2.d]) := ⟨_, rfl⟩
        refine wp_region_I0 (by kernel_rfl) (by kernel_rfl) I11 ?h0 ?hs ?he
        case h0 =>
          rw [hI11]
          exact ⟨FrameOf.refl _ _, (Below.refl _ _).drew, fun h => absurd h (by simp), fun h => absurd h (by simp), fun h => absurd h (by simp), fun h => absurd h (by simp), fun h => absurd h (by simp), fun _ => hT11_0, fun h => absurd h (by simp), fun _ => hT11_1, fun h => absurd h (by simp), hT11_2, hT11_3⟩
        case hs =>
          intro L a w' i o ho hLi hd hI'
          rw [hI11] at hI'
          obtain ⟨hF, hB, ci0, ci1, ci4, cp2_0, cp3_1, cy0, cz0, cy1, cz1, cy2, cy3⟩ := hI'
          have hi : i < 5 := by
            rcases Nat.lt_or_ge i 5 with h | h
            · exact h
            · rw [List.getElem?_eq_none (by simpa using h)] at ho; cases ho
          have zB := hB.size
          have hBw : w.heap.size ≤ w'.heap.size := Nat.le_trans hBW11 zB
          obtain rfl | rfl | rfl | rfl | rfl : i = 0 ∨ i = 1 ∨ i = 2 ∨ i = 3 ∨ i = 4 := by omega
          · simp only [List.getElem?_cons_zero, Option.some.injEq] at ho
            subst ho
            rw [if_pos (by simp [Region.wanted])]
            have e0 : a.tmps[5]?.getD undef = .pointer (some ⟨g5, 0, none⟩) := hF.get (by decide)
            have HT2 := cy2
            have HH2 := HT2.has
            have lH2 := HH2.1
            obtain ⟨cH2_0, fH2_0⟩ := HH2.2 0 _ rfl
            obtain ⟨cH2_1, fH2_1⟩ := HH2.2 1 _ rfl
            simp [go_sem, Array.getD_eq_getD_getElem?, e0, cH2_0, cH2_1]
            rw [hI11]
            exact ⟨hF.put (by decide) _, hB, fun _ => put_get_self (hF.lt (by simp)) _, fun h => (put_get_ne (by decide) _).trans (ci1 (by simpa using h)), fun h => (put_get_ne (by decide) _).trans (ci4 (by simpa using h)), fun _ => by simp, fun h => by have hh := cp3_1 (by simpa using h); simp [hh], fun h => cy0 (by simpa using h), fun h => cz0 (by simpa using h), fun h => cy1 (by simpa using h), fun h => cz1 (by simpa using h), cy2, cy3⟩
          · simp only [List.getElem?_cons_zero, List.getElem?_cons_succ, Option.some.injEq] at ho
            subst ho
            rw [if_pos (by simp [Region.wanted])]
            have e0 : a.tmps[6]?.getD undef = .pointer (some ⟨g6, 0, none⟩) := hF.get (by decide)
            have HT3 := cy3
            have HH3 := HT3.has
            have lH3 := HH3.1
            obtain ⟨cH3_0, fH3_0⟩ := HH3.2 0 _ rfl
            obtain ⟨cH3_1, fH3_1⟩ := HH3.2 1 _ rfl
            simp [go_sem, Array.getD_eq_getD_getElem?, e0, cH3_0, cH3_1]
            rw [hI11]
            exact ⟨hF.put (by decide) _, hB, fun h => (put_get_ne (by decide) _).trans (ci0 (by simpa using h)), fun _ => put_get_self (hF.lt (by simp)) _, fun h => (put_get_ne (by decide) _).trans (ci4 (by simpa using h)), fun h => by have hh := cp2_0 (by simpa using h); simp [hh], fun _ => by simp, fun h => cy0 (by simpa using h), fun h => cz0 (by simpa using h), fun h => cy1 (by simpa using h), fun h => cz1 (by simpa using h), cy2, cy3⟩
          · simp only [List.getElem?_cons_zero, List.getElem?_cons_succ, Option.some.injEq] at ho
            subst ho
            rw [if_pos (by simp [Region.wanted])]
            have e0 : a.tmps[2]?.getD undef = .pointer (some ⟨w.heap.size + 1, 0, none⟩) := hF.get (by decide)
            have d0 := hd { on := 0, ground := .data } (by simp) (by decide)
            have v0 := ci0 d0
            have HT0 := cy0 hLi
            have HH0 := HT0.has
            have lH0 := HH0.1
            obtain ⟨cH0_0, fH0_0⟩ := HH0.2 0 _ rfl
            obtain ⟨cH0_1, fH0_1⟩ := HH0.2 1 _ rfl
            simp [go_sem, Array.getD_eq_getD_getElem?, e0, v0, cH0_0, fH0_0, cH0_1, fH0_1]
            rw [hI11]
            exact ⟨hF, below_setCells_at (by omega) [_, _] 0 _ hB, fun h => ci0 (by simpa using h), fun h => ci1 (by simpa using h), fun h => ci4 (by simpa using h), fun _ => by simp [d0], fun h => by have hh := cp3_1 (by simpa using h); simp [hh], fun h => by simp at h, fun _ => HT0.store (us := [.int .i64 r.1.n, .int .i64 r.1.d]) rfl, fun h => (cy1 (by simpa using h)).other (g' := w.heap.size + 1) (by omega) [.int .i64 r.1.n, .int .i64 r.1.d] 0, fun h => (cz1 (by simpa using h)).other (g' := w.heap.size + 1) (by omega) [.int .i64 r.1.n, .int .i64 r.1.d] 0, (cy2).other (g' := w.heap.size + 1) (by omega) [.int .i64 r.1.n, .int .i64 r.1.d] 0, (cy3).other (g' := w.heap.size + 1) (by omega) [.int .i64 r.1.n, .int .i64 r.1.d] 0⟩
          · simp only [List.getElem?_cons_zero, List.getElem?_cons_succ, Option.some.injEq] at ho
            subst ho
            rw [if_pos (by simp [Region.wanted])]
            have e0 : a.tmps[3]?.getD undef = .pointer (some ⟨w.heap.size + 1 + 1, 0, none⟩) := hF.get (by decide)
            have d1 := hd { on := 1, ground := .data } (by simp) (by decide)
            have v1 := ci1 d1
            have HT1 := cy1 hLi
            have HH1 := HT1.has
            have lH1 := HH1.1
            obtain ⟨cH1_0, fH1_0⟩ := HH1.2 0 _ rfl
            obtain ⟨cH1_1, fH1_1⟩ := HH1.2 1 _ rfl
            simp [go_sem, Array.getD_eq_getD_getElem?, e0, v1, cH1_0, fH1_0, cH1_1, fH1_1]
            rw [hI11]
            exact ⟨hF, below_setCells_at (by omega) [_, _] 0 _ hB, fun h => ci0 (by simpa using h), fun h => ci1 (by simpa using h), fun h => ci4 (by simpa using h), fun h => by have hh := cp2_0 (by simpa using h); simp [hh], fun _ => by simp [d1], fun h => (cy0 (by simpa using h)).other (g' := w.heap.size + 1 + 1) (by omega) [.int .i64 r.2.n, .int .i64 r.2.d] 0, fun h => (cz0 (by simpa using h)).other (g' := w.heap.size + 1 + 1) (by omega) [.int .i64 r.2.n, .int .i64 r.2.d] 0, fun h => by simp at h, fun _ => HT1.store (us := [.int .i64 r.2.n, .int .i64 r.2.d]) rfl, (cy2).other (g' := w.heap.size + 1 + 1) (by omega) [.int .i64 r.2.n, .int .i64 r.2.d] 0, (cy3).other (g' := w.heap.size + 1 + 1) (by omega) [.int .i64 r.2.n, .int .i64 r.2.d] 0⟩
          · simp only [List.getElem?_cons_zero, List.getElem?_cons_succ, Option.some.injEq] at ho
            subst ho
            rw [if_pos (by simp [Region.wanted])]
            simp [go_sem]
            rw [hI11]
            exact ⟨hF.put (by decide) _, hB, fun h => (put_get_ne (by decide) _).trans (ci0 (by simpa using h)), fun h => (put_get_ne (by decide) _).trans (ci1 (by simpa using h)), fun _ => put_get_self (hF.lt (by simp)) _, fun h => by have hh := cp2_0 (by simpa using h); simp [hh], fun h => by have hh := cp3_1 (by simpa using h); simp [hh], fun h => cy0 (by simpa using h), fun h => cz0 (by simpa using h), fun h => cy1 (by simpa using h), fun h => cz1 (by simpa using h), cy2, cy3⟩
        case he =>
          intro L a' w11 hL hI'
          rw [hI11] at hI'
          obtain ⟨hF, hb11, ci0, ci1, ci4, cp2_0, cp3_1, cy0, cz0, cy1, cz1, cy2, cy3⟩ := hI'
          have e11_4 := ci4 (hL 4 (by decide))
          have HT11_0 := cz0 (hL 2 (by decide))
          have HT11_1 := cz1 (hL 3 (by decide))
          have HT11_2 := cy2
          have HT11_3 := cy3
          have hout := hF.outG (by simp)
          simp only [List.foldl_cons, List.foldl_nil, e11_4] at hout
          rw [hout]
          generalize a'.tmps[42]?.getD undef = x11_42
          generalize a'.tmps[43]?.getD undef = x11_43
          clear hout hI11 hF hL ci0 ci1 ci4 cp2_0 cp3_1 cy0 cz0 cy1 cz1 cy2 cy3
          go_simp
          have HR2 := HT11_0.has
          have HR3 := HT11_1.has
          obtain ⟨cHR2_0, fHR2_0⟩ := HR2.2 0 _ rfl
          obtain ⟨cHR2_1, fHR2_1⟩ := HR2.2 1 _ rfl
          obtain ⟨cHR3_0, fHR3_0⟩ := HR3.2 0 _ rfl
          obtain ⟨cHR3_1, fHR3_1⟩ := HR3.2 1 _ rfl
          have l2 := HR2.1
          have l3 := HR3.1
          have BF := hbr.trans hb11
          clear HT11_0 HT11_1 HT11_2 HT11_3 T2 T3 T5 T6
          go_wp2
          refine bodyPost_ret (v := .tuple #[.agg #[.int .i64 r.1.n, .int .i64 r.1.d], .agg #[.int .i64 r.2.n, .int .i64 r.2.d], .bool true]) (by simp [results, Try.results25, go_sem, *]) rfl ⟨by rw [e1.out, e2.out], BF⟩
end Go.Proofs.Ytbdihgcjopbnjaa
