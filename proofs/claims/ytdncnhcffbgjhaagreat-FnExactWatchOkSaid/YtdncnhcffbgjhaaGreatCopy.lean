/-
 Copies of slices, of regions and of rooms: of the program and of the reference.
 Conditions: the slices hold at most 2^20 elements.
-/
import Derived.Test.YtdncnhcffbgjhaaGreatGrL
import Derived.Test.YtdncnhcffbgjhaaGreatGrN
import Derived.Lib.SliceRun
namespace Go.Proofs.YtdncnhcffbgjhaaGreat
open Go.RowKit
theorem New.mk0 {α : Type} {T sz : Nat} {enc : α → List Value} (w : World) : New T sz enc (w.alloc (.cells #[] T)) w.heap.size (.slice (some ⟨w.heap.size, 0, none⟩) 0 0) ([] : List α) :=
 ⟨_, 0, rfl, by simp, .inr ⟨w.heap.size, 0, #[], rfl, by simp, by have := heap_alloc_new w (.cells #[] T); simpa using this, Nat.zero_le _, Nat.zero_le _, by simp, by simp⟩⟩
theorem Has.put {w : World} {g : Nat} {vs : List Value} (h : Has w g vs) (j : Nat) (hj : j < vs.length) (u : Value) : Has (w.setCell ⟨g, j, none⟩ u) g (vs.set j u) := by
 refine ⟨by simpa [World.setCell] using h.1, fun i v hv => ?_⟩
 by_cases e : i = j
 ·subst e
  rw [List.getElem?_set_self hj] at hv
  cases hv
  have h2 := h.2 i _ (List.getElem?_eq_getElem hj)
  exact ⟨World.cell?_setCell_same' _ _ _ (by rw [h2.1]; rfl), (World.frozen?_setCell _ _ _ _).trans h2.2⟩
 ·rw [List.getElem?_set_ne (Ne.symm e)] at hv
  have h2 := h.2 i v hv
  exact ⟨(World.cell?_setCell_other w _ _ u (fun q => e (by injection q with _ q2 _; exact q2.symm))).trans h2.1, (World.frozen?_setCell _ _ _ _).trans h2.2⟩
set_option maxRecDepth 100000 in
theorem cloneHalf_c (A : Option Addr) (xs : List Half) (cap : Nat) (w : World) (hl : xs.length ≤ 1048576) (hs : Sl 3 halfC w A xs) :
  Calls Tryz.prog 208 #[.slice A xs.length cap] w fun e w' => ∃ v, e = .returned v ∧ New 111 3 halfC w' w.heap.size v xs ∧ Below w.heap.size w w' := by
 obtain ⟨i0, hi0, hz0, hz1, hz2⟩ := info_parts (show (Tryz.prog.info? 111).map (fun i => (i.zero, i.size, i.bytes)) = some (some (.agg #[.int .i64 0, .int .i64 0, .int .i64 0]), 3, 24) by kernel_rfl)
 have hnil := fun W n => Lib.run_eql_slice_nil (P := Tryz.prog) W 35 _ A n cap 0 0 Tryz.underlying35
 cases A with
 | none =>
  have hx : xs = [] := by
   apply List.eq_nil_of_length_eq_zero
   apply Nat.eq_zero_of_not_pos
   intro h0
   obtain ⟨b, off, e, _⟩ := hs h0
   cases e
  subst hx
  go_enter Tryz.func208, Tryz.ntmps208
  go_wp2
  go_ret
  refine ⟨_, rfl, ⟨none, 0, rfl, by simp, .inl ⟨rfl, rfl⟩⟩, ?_⟩
  exact belA
 | some p =>
  have N0 : New 111 3 halfC (w.alloc (.cells #[] 111)) w.heap.size (.slice (some ⟨w.heap.size, 0, none⟩) 0 0) [] := New.mk0 w
  have b0 : Below w.heap.size w (w.alloc (.cells #[] 111)) := by
   exact belA
  have hs0 := hs.below b0
  have hz30 : ([] : List Half).length + xs.length ≤ 1073741824 := by simp only [List.length_nil]; omega
  go_enter Tryz.func208, Tryz.ntmps208
  go_wp2_with (at_builtin; refine wpList_appS halfC_len _ rfl _ _ 35 rfl w.heap.size i0 _ 24 Tryz.underlying35 hi0 hz0 hz1 hz2 rfl (by decide) rfl N0 (some p) cap rfl hs0 (fun e => by cases e) halfC_one b0 (by simp) hz30 (by decide) ?_)
  intro v1 w1 N1 hb1
  go_wp2
  go_ret
  exact ⟨_, rfl, N1, hb1⟩
set_option maxRecDepth 100000 in
theorem iCopyRegion_c (p : List Half) (a : SlA) (w : World) (hl : p.length ≤ 1048576) (hs : Sl 3 halfC w a.A p) :
  Calls Tryz.prog 153 #[regionV p a] w fun e w' => ∃ b, e = .returned (regionV p b) ∧ RegionNew w' w.heap.size p b ∧ Below w.heap.size w w' := by
 have c1 := fun W h => cloneHalf_c a.A p a.c W hl h
 have hs0 := (hs.alloc (.cells #[.slice a.A p.length a.c] 37)).alloc (.cells #[.slice none 0 0] 37)
 have H0 : Has ((w.alloc (.cells #[.slice a.A p.length a.c] 37)).alloc (.cells #[.slice none 0 0] 37)) (w.heap.size + 1) [.slice none 0 0] := by
  exact hasA
 have b0 : Below w.heap.size w ((w.alloc (.cells #[.slice a.A p.length a.c] 37)).alloc (.cells #[.slice none 0 0] 37)) := by
  exact belA
 go_enter Tryz.func153, Tryz.ntmps153
 go_wp2_with (fail)
 refine (c1 _ hs0).mono ?_
 rintro e w1 ⟨v1, rfl, N1, hb1⟩
 have H1 := H0.below hb1
 have l1 := H1.1
 have b1 := below_tr b0 hb1
 obtain ⟨A1, k1, rfl, ho⟩ := N1
 have N1 : New 111 3 halfC w1 _ (.slice A1 p.length k1) p := ⟨A1, k1, rfl, ho⟩
 simp only [World.size_alloc] at N1
 clear ho hb1 H0 b0 hs0
 obtain ⟨cH1_0, fH1_0⟩ := H1.2 0 _ rfl
 go_wp2
 refine bodyPost_ret (v := .agg #[.slice A1 p.length k1]) (by simp [results, Tryz.results153, go_sem, cH1_0]) rfl ⟨⟨A1, k1⟩, rfl, ⟨?_⟩, ?_⟩
 ·exact (N1.set_ (by simp only; omega) _).mono (by omega)
 ·exact b1.setCell (by simp only; omega) _
/-- Stores into a lower block, cell by cell, as the walk writes them. -/
theorem New.lowC {α : Type} {T sz base : Nat} {enc : α → List Value} {v : Value} {xs : List α} {w : World} (h : New T sz enc w base v xs) {q : Addr} (hq : q.block < base) (us : List Value) : New T sz enc (w.setCells q.block q.off us) base v xs := by
 induction us generalizing w q with
 | nil => exact h
 | cons u r ih => exact ih (q := ⟨q.block, q.off + 1, none⟩) (h.set_ (p := ⟨q.block, q.off, none⟩) hq u) hq
theorem RegionNew.lowC {w : World} {base : Nat} {x : List Half} {a : SlA} (h : RegionNew w base x a) {q : Addr} (hq : q.block < base) (us : List Value) : RegionNew (w.setCells q.block q.off us) base x a := ⟨h.halves.lowC hq us⟩
end Go.Proofs.YtdncnhcffbgjhaaGreat
