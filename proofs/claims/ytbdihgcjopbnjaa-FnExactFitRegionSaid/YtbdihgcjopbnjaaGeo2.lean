/-
  Directions of half planes: their order around the plane.
  Conditions: none.
-/
import Derived.Test.YtbdihgcjopbnjaaGeo1
namespace Go.Proofs.Ytbdihgcjopbnjaa
open Go.RowKit

/-! ### directions -/
def hcrs (g h : Half) : Int := g.a * h.b - g.b * h.a
def hdet (p q r : Half) : Int := r.c * (p.a * q.b - p.b * q.a) - r.a * (p.c * q.b - q.c * p.b) - r.b * (p.a * q.c - q.a * p.c)
theorem gom : GOM hcrs hdet where
  xa a b := by simp only [hcrs]; grind
  da a b c := by simp only [hdet]; grind
  dc a b c := by simp only [hdet]; grind
  p3 p q r s := by simp only [hdet, hcrs]; grind
  p2 a b c d := by simp only [hcrs]; grind

def HNz (h : Half) : Prop := ¬(h.a = 0 ∧ h.b = 0)
def hsz (h : Half) : Int := if h.a = 0 then (h.b.natAbs : Int) else (h.a.natAbs : Int)
def hup (h : Half) : Bool := decide (0 < h.b) || (decide (h.b = 0) && decide (0 < h.a))
def hbef (g h : Half) : Bool := if hup g = hup h then decide (0 < hcrs g h) else hup g
def sameDir (g h : Half) : Bool := decide (hcrs g h = 0) && (hup g == hup h)
theorem hsz_pos {h : Half} (n : HNz h) : 0 < hsz h := by unfold hsz HNz at *; split <;> omega
theorem upper_iff {h : Half} : hup h = true ↔ 0 < h.b ∨ (h.b = 0 ∧ 0 < h.a) := by simp [hup]
theorem lower_iff {h : Half} (n : HNz h) : hup h = false ↔ h.b < 0 ∨ (h.b = 0 ∧ h.a < 0) := by
  unfold HNz at n; simp [hup]; omega
def hneg (h : Half) : Half := ⟨-h.a, -h.b, h.c⟩
theorem neg_nz {h : Half} (n : HNz h) : HNz (hneg h) := by unfold HNz hneg at *; simp only; omega
theorem neg_upper {h : Half} (n : HNz h) : hup (hneg h) = !hup h := by
  cases e : hup h
  · have := (lower_iff n).1 e
    rw [Bool.not_false, upper_iff]; simp only [hneg]; omega
  · have := upper_iff.1 e
    rw [Bool.not_true, lower_iff (neg_nz n)]; simp only [hneg]; omega
theorem crs_neg (g h : Half) : hcrs (hneg g) h = -hcrs g h := by simp only [hcrs, hneg]; grind
theorem crs_neg2 (g h : Half) : hcrs g (hneg h) = -hcrs g h := by simp only [hcrs, hneg]; grind
theorem crs_anti (g h : Half) : hcrs g h = -hcrs h g := gom.xa g h

/-- Among hup directions, the turn is an order. -/
theorem up_trans {g h k : Half} (ug : hup g = true) (uh : hup h = true) (uk : hup k = true) (h1 : 0 ≤ hcrs g h) (h2 : 0 ≤ hcrs h k) :
    0 ≤ hcrs g k ∧ (0 < hcrs g h ∨ 0 < hcrs h k → 0 < hcrs g k) := by
  rw [upper_iff] at ug uh uk
  have id : h.b * hcrs g k = g.b * hcrs h k + k.b * hcrs g h := by simp only [hcrs]; grind
  rcases uh with hb | ⟨hb, ha⟩
  · have p1 : 0 ≤ g.b * hcrs h k := Int.mul_nonneg (by omega) h2
    have p2 : 0 ≤ k.b * hcrs g h := Int.mul_nonneg (by omega) h1
    refine ⟨gmn (a := h.b) (by omega) hb, fun h3 => ?_⟩
    have kb : 0 < k.b := by
      rcases uk with u | ⟨u, u2⟩
      · exact u
      · have e : hcrs h k = -(h.b * k.a) := by simp only [hcrs, u]; grind
        have := Int.mul_pos hb u2; omega
    rcases h3 with h3 | h3
    · have := Int.mul_pos kb h3
      exact gmp (a := h.b) (by omega) hb
    · rcases ug with u | ⟨u, u2⟩
      · have := Int.mul_pos u h3
        exact gmp (a := h.b) (by omega) hb
      · have e : hcrs g k = g.a * k.b := by simp only [hcrs, u]; grind
        rw [e]; exact Int.mul_pos u2 kb
  · have e1 : hcrs g h = -(h.a * g.b) := by simp only [hcrs, hb]; grind
    have e2 : hcrs h k = h.a * k.b := by simp only [hcrs, hb]; grind
    have gb : g.b = 0 := by
      rcases ug with u | ⟨u, _⟩
      · have := Int.mul_pos ha u; omega
      · exact u
    have ga : 0 < g.a := by omega
    have e3 : hcrs g k = g.a * k.b := by simp only [hcrs, gb]; grind
    rw [e3]
    have kb : 0 ≤ k.b := by omega
    refine ⟨Int.mul_nonneg (by omega) kb, fun h3 => ?_⟩
    rcases h3 with h3 | h3
    · rw [e1, gb] at h3; simp at h3
    · rw [e2] at h3
      exact Int.mul_pos ga (gmp h3 ha)

/-- The same for directions of one half turn. -/
theorem dir_trans {g h k : Half} (ng : HNz g) (nh : HNz h) (nk : HNz k) (e1 : hup g = hup h) (e2 : hup h = hup k) (h1 : 0 ≤ hcrs g h) (h2 : 0 ≤ hcrs h k) :
    0 ≤ hcrs g k ∧ (0 < hcrs g h ∨ 0 < hcrs h k → 0 < hcrs g k) := by
  cases e : hup h
  · rw [e] at e1 e2
    have u1 : hup (hneg g) = true := by rw [neg_upper ng, e1]; rfl
    have u2 : hup (hneg h) = true := by rw [neg_upper nh, e]; rfl
    have u3 : hup (hneg k) = true := by rw [neg_upper nk, ← e2]; rfl
    have x : ∀ p q, hcrs (hneg p) (hneg q) = hcrs p q := fun p q => by rw [crs_neg, crs_neg2]; omega
    have := up_trans u1 u2 u3 (by rw [x]; exact h1) (by rw [x]; exact h2)
    rwa [x, x, x] at this
  · rw [e] at e1 e2
    exact up_trans e1 e e2.symm h1 h2

theorem bef_irr (g : Half) : hbef g g = false := by simp [hbef, hcrs]; grind
theorem bef_asymm {g h : Half} (h1 : hbef g h = true) : hbef h g = false := by
  unfold hbef at *
  have := crs_anti g h
  by_cases e : hup g = hup h
  · rw [if_pos e] at h1
    rw [if_pos e.symm]; simp at *; omega
  · rw [if_neg e] at h1
    rw [if_neg (fun x => e x.symm)]
    cases e2 : hup h
    · rfl
    · rw [h1, e2] at e; exact absurd rfl e
theorem bef_trans {g h k : Half} (ng : HNz g) (nh : HNz h) (nk : HNz k) (h1 : hbef g h = true) (h2 : hbef h k = true) : hbef g k = true := by
  unfold hbef at *
  by_cases e : hup g = hup h
  · rw [if_pos e] at h1
    by_cases e2 : hup h = hup k
    · rw [if_pos e2] at h2
      rw [if_pos (e.trans e2)]
      simp only [decide_eq_true_eq] at *
      exact (dir_trans ng nh nk e e2 (by omega) (by omega)).2 (.inl h1)
    · rw [if_neg e2] at h2
      rw [if_neg (by rw [e]; exact e2), e]; exact h2
  · rw [if_neg e] at h1
    have : hup h = false := by
      cases e2 : hup h
      · rfl
      · rw [h1, e2] at e; exact absurd rfl e
    have : hup k = false := by
      cases e2 : hup k
      · rfl
      · rw [this, e2] at h2; simp at h2
    rw [if_neg (by rw [h1, this]; decide)]; exact h1
theorem bef_tri {g h : Half} (h1 : hbef g h = false) (h2 : sameDir g h = false) : hbef h g = true := by
  unfold hbef sameDir at *
  have := crs_anti g h
  by_cases e : hup g = hup h
  · rw [if_pos e] at h1
    rw [if_pos e.symm]
    simp [e] at *; omega
  · rw [if_neg e] at h1
    rw [if_neg (fun x => e x.symm)]
    cases e2 : hup h
    · rw [h1, e2] at e; exact absurd rfl e
    · rfl

/-- Parallel ones: the same direction, or the opposite one. -/
theorem hpar {g h : Half} (ng : HNz g) (nh : HNz h) (hx : hcrs g h = 0) :
    (hup g = hup h ∧ g.a * hsz h = h.a * hsz g ∧ g.b * hsz h = h.b * hsz g) ∨ (hup g ≠ hup h ∧ g.a * hsz h = -(h.a * hsz g) ∧ g.b * hsz h = -(h.b * hsz g)) := by
  unfold hcrs at hx
  unfold HNz at ng nh
  by_cases ga : g.a = 0
  · have gb : g.b ≠ 0 := by omega
    rw [ga, Int.zero_mul] at hx
    have ha : h.a = 0 := gmz (a := g.b) (by omega) gb
    have hb : h.b ≠ 0 := by omega
    simp only [hsz, ga, ha, if_true, hup, Int.lt_irrefl, decide_false, Bool.and_false, Bool.or_false]
    rcases Int.lt_or_gt_of_ne gb with h1 | h1 <;> rcases Int.lt_or_gt_of_ne hb with h2 | h2
    · left
      have e1 : (g.b.natAbs : Int) = -g.b := by omega
      have e2 : (h.b.natAbs : Int) = -h.b := by omega
      rw [e1, e2]
      refine ⟨?_, by simp, by grind⟩
      rw [decide_eq_false (by omega), decide_eq_false (by omega)]
    · right
      have e1 : (g.b.natAbs : Int) = -g.b := by omega
      have e2 : (h.b.natAbs : Int) = h.b := by omega
      rw [e1, e2]
      refine ⟨?_, by simp, by grind⟩
      rw [decide_eq_false (by omega), decide_eq_true (by omega)]; decide
    · right
      have e1 : (g.b.natAbs : Int) = g.b := by omega
      have e2 : (h.b.natAbs : Int) = -h.b := by omega
      rw [e1, e2]
      refine ⟨?_, by simp, by grind⟩
      rw [decide_eq_true (by omega), decide_eq_false (by omega)]; decide
    · left
      have e1 : (g.b.natAbs : Int) = g.b := by omega
      have e2 : (h.b.natAbs : Int) = h.b := by omega
      rw [e1, e2]
      refine ⟨?_, by simp, by grind⟩
      rw [decide_eq_true (by omega), decide_eq_true (by omega)]
  · have ha : h.a ≠ 0 := by
      intro ha
      rw [ha, Int.mul_zero, Int.sub_zero] at hx
      have := gmz hx ga
      omega
    have hx' : g.a * h.b = g.b * h.a := by omega
    have up : ∀ k : Half, k.a ≠ 0 → (hup k = true ↔ 0 < k.b ∨ (k.b = 0 ∧ 0 < k.a)) := fun k _ => upper_iff
    have sgb : (0 < g.a ∧ 0 < h.a ∨ g.a < 0 ∧ h.a < 0) → ((0 < g.b ↔ 0 < h.b) ∧ (g.b = 0 ↔ h.b = 0)) := by
      rintro (⟨p, q⟩ | ⟨p, q⟩)
      · refine ⟨⟨fun r => ?_, fun r => ?_⟩, ⟨fun r => ?_, fun r => ?_⟩⟩
        · have := Int.mul_pos r q; exact gmp (a := g.a) (by omega) p
        · have := Int.mul_pos p r; exact gmp (a := h.a) (by rw [Int.mul_comm]; omega) q
        · rw [r, Int.zero_mul] at hx'; exact gmz hx' ga
        · rw [r, Int.mul_zero] at hx'; exact gmz (a := h.a) (by rw [Int.mul_comm]; omega) ha
      · refine ⟨⟨fun r => ?_, fun r => ?_⟩, ⟨fun r => ?_, fun r => ?_⟩⟩
        · have := Int.mul_neg_of_pos_of_neg r q
          exact gmp (a := -g.a) (by rw [Int.neg_mul]; omega) (by omega)
        · have := Int.mul_neg_of_neg_of_pos p r
          exact gmp (a := -h.a) (by rw [Int.neg_mul, Int.mul_comm]; omega) (by omega)
        · rw [r, Int.zero_mul] at hx'; exact gmz hx' ga
        · rw [r, Int.mul_zero] at hx'; exact gmz (a := h.a) (by rw [Int.mul_comm]; omega) ha
    have sgn' : (0 < g.a ∧ h.a < 0 ∨ g.a < 0 ∧ 0 < h.a) → ((0 < g.b ↔ h.b < 0) ∧ (g.b < 0 ↔ 0 < h.b)) := by
      rintro (⟨p, q⟩ | ⟨p, q⟩)
      · refine ⟨⟨fun r => ?_, fun r => ?_⟩, ⟨fun r => ?_, fun r => ?_⟩⟩
        · have := Int.mul_neg_of_pos_of_neg r q
          have := gmp (a := g.a) (b := -h.b) (by rw [Int.mul_neg]; omega) p; omega
        · have := Int.mul_neg_of_pos_of_neg p r
          exact gmp (a := -h.a) (by rw [Int.neg_mul, Int.mul_comm]; omega) (by omega)
        · have := Int.mul_pos_of_neg_of_neg r q
          exact gmp (a := g.a) (by omega) p
        · have := Int.mul_pos p r
          have := gmp (a := -h.a) (b := -g.b) (by rw [Int.neg_mul_neg, Int.mul_comm]; omega) (by omega); omega
      · refine ⟨⟨fun r => ?_, fun r => ?_⟩, ⟨fun r => ?_, fun r => ?_⟩⟩
        · have := Int.mul_pos r q
          have := gmp (a := -g.a) (b := -h.b) (by rw [Int.neg_mul_neg]; omega) (by omega); omega
        · have := Int.mul_pos_of_neg_of_neg p r
          exact gmp (a := h.a) (by rw [Int.mul_comm]; omega) q
        · have := Int.mul_neg_of_neg_of_pos r q
          exact gmp (a := -g.a) (by rw [Int.neg_mul]; omega) (by omega)
        · have := Int.mul_neg_of_neg_of_pos p r
          have := gmp (a := h.a) (b := -g.b) (by rw [Int.mul_neg, Int.mul_comm]; omega) q; omega
    simp only [hsz, if_neg ga, if_neg ha]
    have bo : ∀ p q : Bool, (p = true ↔ q = true) → p = q := by decide
    have bn : ∀ p q : Bool, (p = true ↔ ¬ q = true) → p ≠ q := by decide
    rcases Int.lt_or_gt_of_ne ga with h1 | h1 <;> rcases Int.lt_or_gt_of_ne ha with h2 | h2
    · left
      have e1 : (g.a.natAbs : Int) = -g.a := by omega
      have e2 : (h.a.natAbs : Int) = -h.a := by omega
      rw [e1, e2]
      refine ⟨bo _ _ ?_, by grind, by grind⟩
      have := sgb (by omega)
      rw [upper_iff, upper_iff]; omega
    · right
      have e1 : (g.a.natAbs : Int) = -g.a := by omega
      have e2 : (h.a.natAbs : Int) = h.a := by omega
      rw [e1, e2]
      refine ⟨bn _ _ ?_, by grind, by grind⟩
      have := sgn' (by omega)
      rw [upper_iff, upper_iff]; omega
    · right
      have e1 : (g.a.natAbs : Int) = g.a := by omega
      have e2 : (h.a.natAbs : Int) = -h.a := by omega
      rw [e1, e2]
      refine ⟨bn _ _ ?_, by grind, by grind⟩
      have := sgn' (by omega)
      rw [upper_iff, upper_iff]; omega
    · left
      have e1 : (g.a.natAbs : Int) = g.a := by omega
      have e2 : (h.a.natAbs : Int) = h.a := by omega
      rw [e1, e2]
      refine ⟨bo _ _ ?_, by grind, by grind⟩
      have := sgb (by omega)
      rw [upper_iff, upper_iff]; omega
end Go.Proofs.Ytbdihgcjopbnjaa
