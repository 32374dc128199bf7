/-
  The fitted region contains just the parameters that are consistent with all records. No program is named here.
  Conditions: none.
-/
import Derived.Test.YtbdihgcjopbnjaaHold
import Derived.Test.YtbdihgcjopbnjaaGrL
import Derived.Test.YtbdihgcjopbnjaaMak
import Derived.Test.YtbdihgcjopbnjaaGrS
namespace Go.Proofs.Ytbdihgcjopbnjaa
open Go.RowKit

theorem redHalf_holds {a b c x y d : Int} (h : ¬(a = 0 ∧ b = 0)) : HoldsP (redHalf a b c) x y d ↔ a * x + b * y ≤ c * d := by
  obtain ⟨e1, e2, e3⟩ := @gcdAll_dvd a b c
  have g0 : ((gcdAll [a, b, c] : Nat) : Int) ≠ 0 := by
    intro e
    rw [e] at e1 e2
    exact h ⟨Int.zero_dvd.1 e1, Int.zero_dvd.1 e2⟩
  unfold HoldsP redHalf
  simp only
  have gp := Int.natCast_nonneg (gcdAll [a, b, c])
  generalize ((gcdAll [a, b, c] : Nat) : Int) = g at *
  obtain ⟨p, rfl⟩ := e1
  obtain ⟨q, rfl⟩ := e2
  obtain ⟨r, rfl⟩ := e3
  rw [Int.mul_tdiv_cancel_left _ g0, Int.mul_tdiv_cancel_left _ g0, Int.mul_tdiv_cancel_left _ g0]
  have e : g * p * x + g * q * y = g * (p * x + q * y) := by rw [Int.mul_add, Int.mul_assoc, Int.mul_assoc]
  rw [e, Int.mul_assoc]
  constructor
  · intro k; exact Int.mul_le_mul_of_nonneg_left k gp
  · intro k; exact Int.le_of_mul_le_mul_left k (by omega)
theorem holdsH_iff {h : Half} {s : Spot} : holdsH s h = true ↔ HoldsP h s.x s.y s.d := by
  unfold holdsH valS HoldsP
  rw [decide_eq_true_eq]
  omega
/-- The half planes of a record hold just where the record is consistent. -/
theorem recH_holds {x : Record} {err : Int} {s : Spot} (hx : recOk x = true) (he : inR err 0 1000 = true) (hb : badRec x err = false) (hd : 1 ≤ s.d) :
    (∀ h ∈ recordHalves x err, HoldsP h s.x s.y s.d) ↔ distR x s ≤ 100 * err * s.d := by
  have hr : distR x s ≤ 100 * err * s.d ↔ (s.x * x.before + s.y * x.input - 100 * x.after * s.d ≤ 100 * err * s.d ∧ -(s.x * x.before + s.y * x.input - 100 * x.after * s.d) ≤ 100 * err * s.d) := by
    unfold distR; omega
  rw [hr]
  unfold recordHalves
  by_cases h0 : x.before = 0 ∧ x.input = 0
  · rw [if_neg (by intro h; exact h.2.2 h0)]
    have ha : inR x.after (-err) err = true := by
      unfold badRec at hb
      rw [decide_eq_true h0.1, decide_eq_true h0.2] at hb
      simpa using hb
    obtain ⟨a1, a2⟩ := inR_iff.1 ha
    rw [h0.1, h0.2, Int.mul_zero, Int.mul_zero]
    have m1 := Int.mul_le_mul_of_nonneg_right a1 (show 0 ≤ s.d by omega)
    have m2 := Int.mul_le_mul_of_nonneg_right a2 (show 0 ≤ s.d by omega)
    rw [Int.mul_assoc, Int.mul_assoc]
    rw [Int.neg_mul] at m1
    constructor
    · intro _; constructor <;> omega
    · intro _ h hh; cases hh
  · rw [if_pos ⟨hx, he, h0⟩]
    have p1 := @redHalf_holds x.before x.input (100 * (x.after + err)) s.x s.y s.d h0
    have p2 := @redHalf_holds (-x.before) (-x.input) (100 * (err - x.after)) s.x s.y s.d (by omega)
    have e1 : 100 * (x.after + err) * s.d = 100 * x.after * s.d + 100 * err * s.d := by rw [Int.mul_add, Int.add_mul]
    have e2 : 100 * (err - x.after) * s.d = 100 * err * s.d - 100 * x.after * s.d := by rw [Int.mul_sub, Int.sub_mul]
    rw [e1] at p1
    rw [e2, Int.neg_mul, Int.neg_mul] at p2
    have c1 := Int.mul_comm s.x x.before
    have c2 := Int.mul_comm s.y x.input
    constructor
    · intro hh
      have k1 := p1.1 (hh (recH1 x err) (by simp))
      have k2 := p2.1 (hh (recH2 x err) (by simp))
      constructor <;> omega
    · rintro ⟨k1, k2⟩ h hh
      simp only [List.mem_cons, List.not_mem_nil, or_false] at hh
      rcases hh with rfl | rfl
      · exact p1.2 (by omega)
      · exact p2.2 (by omega)
theorem frame_holds {s : Spot} (hs : spotOk s = true) : ∀ h ∈ gframe, HoldsP h s.x s.y s.d := by
  obtain ⟨h1, h2, h3, _⟩ := spotOk_iff.1 hs
  intro h hh
  simp only [gframe, List.mem_cons, List.not_mem_nil, or_false] at hh
  rcases hh with rfl | rfl | rfl | rfl <;> (unfold HoldsP; simp only; omega)
theorem fitR_ne {xs : List Record} {err : Int} (h : fitR xs err ≠ []) : fitOk xs err = true ∧ fitBad xs err = false ∧ fitR xs err = meetI (meetL (fitHs xs err)) := by
  unfold fitR at h ⊢
  split at h
  · rename_i hc
    rw [if_pos hc]; exact ⟨hc.1, hc.2, rfl⟩
  · exact absurd rfl h
theorem fit_holds {xs : List Record} {err : Int} (hne : fitR xs err ≠ []) {s : Spot} (hs : spotOk s = true) : (∀ h ∈ fitR xs err, HoldsP h s.x s.y s.d) ↔ ∀ x ∈ xs, distR x s ≤ 100 * err * s.d := by
  obtain ⟨h1, h2, h3⟩ := fitR_ne hne
  have hd := (spotOk_iff.1 hs).1.1
  simp only [fitOk, Bool.and_eq_true] at h1
  have hall : ∀ x ∈ xs, recOk x = true := by
    have := h1.1
    simp only [recordsOk, Bool.and_eq_true, List.all_eq_true] at this
    exact this.1
  have hb : ∀ x ∈ xs, badRec x err = false := fun x hx => by
    unfold fitBad at h2
    rw [List.any_eq_false] at h2
    simpa using h2 x hx
  rw [h3] at hne ⊢
  rw [meet_holds fitHs_ok hne (by omega)]
  constructor
  · intro h x hx
    refine (recH_holds (hall x hx) h1.2 (hb x hx) hd).1 (fun f hf => h f (List.mem_append.2 (.inr ?_)))
    unfold fitHs
    exact List.mem_flatMap.2 ⟨x, hx, hf⟩
  · intro h f hf
    rcases List.mem_append.1 hf with hf | hf
    · exact frame_holds hs f hf
    · unfold fitHs at hf
      obtain ⟨x, hx, hf⟩ := List.mem_flatMap.1 hf
      exact (recH_holds (hall x hx) h1.2 (hb x hx) hd).2 (h x hx) f hf
theorem fit_consistent {xs : List Record} {err : Int} (hne : fitR xs err ≠ []) {s : Spot} (hs : areParams s = true) : holdsB (fitR xs err) s = isConsistent xs err s := by
  have hso : spotOk s = true := by unfold areParams at hs; rw [Bool.and_eq_true] at hs; exact hs.1
  have hd := (spotOk_iff.1 hso).1.1
  have h := fit_holds hne hso
  obtain ⟨h1, _, _⟩ := fitR_ne hne
  simp only [fitOk, Bool.and_eq_true] at h1
  have he := inR_iff.1 h1.2
  have hm := maxDist_le (s := s) (100 * err * s.d) xs (Int.mul_nonneg (by omega) (by omega))
  have hl : ¬ (fitR xs err).length = 0 := fun e => hne (List.length_eq_zero_iff.1 e)
  unfold holdsB isConsistent leastOk
  rw [h1.1, h1.2, hs, decide_eq_false hl, Bool.eq_iff_iff]
  simp only [Bool.not_false, Bool.true_and, Bool.and_self, List.all_eq_true, decide_eq_true_eq]
  rw [hm, ← h]
  exact ⟨fun k f hf => holdsH_iff.1 (k f hf), fun k f hf => holdsH_iff.2 (k f hf)⟩

/-! ### What was drawn -/
theorem gcd1 (x y : Int) : gcdAll [x, y, 1] = 1 := by
  obtain ⟨_, _, h⟩ := @gcdAll_dvd x y 1
  have := Int.natAbs_dvd_natAbs.2 h
  simp at this
  exact this
theorem spot1 {x y : Int} (hx : -1000 ≤ x ∧ x ≤ 1000) (hy : -1000 ≤ y ∧ y ≤ 1000) : areParams ⟨x, y, 1⟩ = true := by
  unfold areParams spotOk
  rw [gcd1]
  simp [inR]
  omega
theorem spot1_ok {x y : Int} (hx : -1000 ≤ x ∧ x ≤ 1000) (hy : -1000 ≤ y ∧ y ≤ 1000) : spotOk ⟨x, y, 1⟩ = true := by
  have := spot1 hx hy
  unfold areParams at this; rw [Bool.and_eq_true] at this; exact this.1
theorem shift1 {x y a b : Int} (hx : -900 ≤ x ∧ x ≤ 900) (hy : -900 ≤ y ∧ y ≤ 900) (ha : -100 ≤ a ∧ a ≤ 100) (hb : -100 ≤ b ∧ b ≤ 100) : shiftSpot ⟨x, y, 1⟩ a b = some ⟨x + a, y + b, 1⟩ := by
  unfold shiftSpot
  rw [if_pos ⟨spot1_ok ⟨by omega, by omega⟩ ⟨by omega, by omega⟩, inR_iff.2 ⟨by omega, by omega⟩, inR_iff.2 ⟨by omega, by omega⟩⟩]
  simp only [Int.mul_one]
  rw [(spotOf_in (x := x + a) (y := y + b) (d := 1) ⟨by omega, by omega⟩ ⟨by omega, by omega⟩ ⟨by omega, by omega⟩).1]
  unfold redSpot
  rw [gcd1]
  simp
theorem MakR.records {xs : List Record} {err a b : Int} (h : MakR xs err a b) : recordsOk xs = true := by
  have he := h.e0
  have ha := h.a0
  have hb := h.b0
  unfold recordsOk
  rw [Bool.and_eq_true, List.all_eq_true, decide_eq_true_eq]
  refine ⟨fun x hx => ?_, by have := h.len; omega⟩
  obtain ⟨p, q, r⟩ := h.all x hx
  have m1 := mulB (a := a) (b := x.before) (A := 99) (B := 100) ⟨by omega, by omega⟩ ⟨by omega, by omega⟩
  have m2 := mulB (a := b) (b := x.input) (A := 39) (B := 20) ⟨by omega, by omega⟩ ⟨by omega, by omega⟩
  exact recOk_iff.2 ⟨⟨by omega, by omega⟩, ⟨by omega, by omega⟩, ⟨by omega, by omega⟩⟩
theorem MakR.err_ {xs : List Record} {err a b : Int} (h : MakR xs err a b) : inR err 0 1000 = true := inR_iff.2 ⟨by have := h.e0; omega, by have := h.e0; omega⟩
theorem MakR.par {xs : List Record} {err a b : Int} (h : MakR xs err a b) : areParams ⟨a, b, 1⟩ = true := spot1 (by have := h.a0; omega) (by have := h.b0; omega)
theorem MakR.fit {xs : List Record} {err a b : Int} (h : MakR xs err a b) : fitOk xs err = true := by unfold fitOk; rw [h.records, h.err_]; rfl
theorem MakR.least {xs : List Record} {err a b : Int} (h : MakR xs err a b) : leastOk xs ⟨a, b, 1⟩ = true := by unfold leastOk; rw [h.records, h.par]; rfl
theorem MakR.dist {xs : List Record} {err a b : Int} (h : MakR xs err a b) : ∀ x ∈ xs, distR x ⟨a, b, 1⟩ ≤ 100 * err * 1 := by
  intro x hx
  obtain ⟨_, _, r⟩ := h.all x hx
  unfold distR
  simp only
  generalize a * x.before = m1 at *
  generalize b * x.input = m2 at *
  omega
theorem MakR.max_ {xs : List Record} {err a b : Int} (h : MakR xs err a b) : maxDist xs ⟨a, b, 1⟩ ≤ 100 * err * 1 := (maxDist_le (s := ⟨a, b, 1⟩) (100 * err * 1) xs (by have := h.e0; omega)).2 h.dist
theorem MakR.cons {xs : List Record} {err a b : Int} (h : MakR xs err a b) : isConsistent xs err ⟨a, b, 1⟩ = true := by
  unfold isConsistent
  rw [h.least, h.err_]
  simp only [Bool.true_and, decide_eq_true_eq]
  exact h.max_
theorem MakR.cmp {xs : List Record} {err a b : Int} (h : MakR xs err a b) : ratioCmp (leastError xs ⟨a, b, 1⟩) (ratioOf err 1) ≤ 0 := by
  have he := h.e0
  have hd := leastOk_dis h.records h.par
  have hb := maxDist_bd xs hd
  have hc := consCmp (m := maxDist xs ⟨a, b, 1⟩) (d := 1) (e := err) hb ⟨by omega, by omega⟩ ⟨by omega, by omega⟩
  rw [decide_eq_true h.max_, decide_eq_true_eq] at hc
  unfold leastError
  rw [if_pos h.least]
  exact hc
end Go.Proofs.Ytbdihgcjopbnjaa
