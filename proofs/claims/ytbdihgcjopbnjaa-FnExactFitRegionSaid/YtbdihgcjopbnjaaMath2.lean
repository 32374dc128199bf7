/-
  The plain mathematics of fractions, spots, half planes and pieces: what is valid, and how they are reduced.
  Conditions: none.
-/
import Derived.Test.YtbdihgcjopbnjaaStr
namespace Go.Proofs.Ytbdihgcjopbnjaa
open Go.RowKit

theorem gcd3 (a b c : Int) : gcdAll [a, b, c] = Nat.gcd (Nat.gcd a.natAbs b.natAbs) c.natAbs := by simp [gcdAll]
theorem gcd4 (a b c d : Int) : gcdAll [a, b, c, d] = Nat.gcd (Nat.gcd (Nat.gcd a.natAbs b.natAbs) c.natAbs) d.natAbs := by simp [gcdAll]

theorem isMin_no {a : Int} (h : -9223372036854775807 ≤ a) : isMin a = false := by simp [isMin]; omega
theorem isMin_yes {a : Int} (h : a = -9223372036854775808) : isMin a = true := by simp [isMin, h]
theorem gcdOf_no {a b : Int} (ha : isMin a = false) (hb : isMin b = false) : gcdOf a b = ((Nat.gcd a.natAbs b.natAbs : Nat) : Int) := by simp [gcdOf, ha, hb]
theorem gcdOf_min1 {a b : Int} (ha : isMin a = true) : gcdOf a b = 0 := by simp [gcdOf, ha]
theorem gcdOf_min2 {a b : Int} (hb : isMin b = true) : gcdOf a b = 0 := by simp [gcdOf, hb]

/-- The gcd of two ints that are not the least one is an int that is not the least one. -/
theorem gcdOf_in {a b : Int} (ha : In64 a) (hb : In64 b) : 0 ≤ gcdOf a b ∧ gcdOf a b ≤ 9223372036854775807 := by
  unfold gcdOf
  split
  · omega
  · rename_i h
    simp at h
    have := gcd_pair_le ha hb h.1 h.2
    rw [gcd_pair] at this
    omega
theorem gcdOf_In64 {a b : Int} (ha : In64 a) (hb : In64 b) : In64 (gcdOf a b) := by
  have := gcdOf_in ha hb
  exact ⟨by omega, by omega⟩

theorem natAbs_tdiv (a : Int) (g : Nat) : (a.tdiv g).natAbs = a.natAbs / g := by
  rcases Int.le_total 0 a with h | h
  · rw [tdiv_of_nonneg h]; rfl
  · rcases Int.lt_or_eq_of_le h with h | h
    · rw [tdiv_of_neg h, Int.natAbs_neg]; rfl
    · subst h; simp

theorem tdiv_le (a : Int) (g : Nat) (B : Int) (h1 : -B ≤ a) (h2 : a ≤ B) : -B ≤ a.tdiv g ∧ a.tdiv g ≤ B := by
  have h := natAbs_tdiv a g
  have := Nat.div_le_self a.natAbs g
  omega

/-! ### Fractions -/
def ratioOk (r : Ratio) : Bool := inR r.d 1 1000000000000000 && inR r.n (-1000000000000000000) 1000000000000000000 && decide (gcdOf r.n r.d = 1)
def ratio0 : Ratio := ⟨0, 0⟩
def ratioOf (n d : Int) : Ratio :=
  if d = 0 ∨ isMin n = true ∨ isMin d = true then ratio0
  else if 1000000000000000000 < n.natAbs / gcdAll [n, d] ∨ 1000000000000000 < d.natAbs / gcdAll [n, d] then ratio0
  else if decide (n < 0) = decide (d < 0) then ⟨((n.natAbs / gcdAll [n, d] : Nat) : Int), ((d.natAbs / gcdAll [n, d] : Nat) : Int)⟩
  else ⟨-((n.natAbs / gcdAll [n, d] : Nat) : Int), ((d.natAbs / gcdAll [n, d] : Nat) : Int)⟩

theorem ratioOk_iff {r : Ratio} : ratioOk r = true ↔ (1 ≤ r.d ∧ r.d ≤ 1000000000000000) ∧ (-1000000000000000000 ≤ r.n ∧ r.n ≤ 1000000000000000000) ∧ Nat.gcd r.n.natAbs r.d.natAbs = 1 := by
  simp only [ratioOk, Bool.and_eq_true, inR_iff, decide_eq_true_eq, and_assoc]
  refine ⟨fun ⟨a, b, c, d, e⟩ => ?_, fun ⟨a, b, c, d, e⟩ => ?_⟩
  · rw [gcdOf_no (isMin_no (by omega)) (isMin_no (by omega))] at e
    exact ⟨a, b, c, d, by omega⟩
  · refine ⟨a, b, c, d, ?_⟩
    rw [gcdOf_no (isMin_no (by omega)) (isMin_no (by omega))]
    omega
theorem ratioOk_zero : ratioOk ratio0 = false := by decide

theorem ratioOf_ok {n d : Int} : ratioOk (ratioOf n d) = true ↔ ratioOf n d ≠ ratio0 := by
  constructor
  · intro h e
    rw [e, ratioOk_zero] at h; cases h
  · intro h
    unfold ratioOf at h ⊢
    split
    · rename_i h1; rw [if_pos h1] at h; exact absurd rfl h
    · rename_i h1
      rw [if_neg h1] at h
      split
      · rename_i h2; rw [if_pos h2] at h; exact absurd rfl h
      · rename_i h2
        have hd : 0 < d.natAbs := by omega
        have hg : 0 < gcdAll [n, d] := by rw [gcd_pair]; exact Nat.gcd_pos_of_pos_right _ hd
        have hdd : gcdAll [n, d] ∣ d.natAbs := by rw [gcd_pair]; exact Nat.gcd_dvd_right _ _
        have hpos : 0 < d.natAbs / gcdAll [n, d] := Nat.div_pos (Nat.le_of_dvd hd hdd) hg
        have hco : Nat.gcd (n.natAbs / gcdAll [n, d]) (d.natAbs / gcdAll [n, d]) = 1 := by
          rw [gcd_pair]
          exact Nat.gcd_div_gcd_div_gcd_of_pos_right hd
        generalize n.natAbs / gcdAll [n, d] = top at *
        generalize d.natAbs / gcdAll [n, d] = bel at *
        split
        · rw [ratioOk_iff]; simp only [Int.natAbs_natCast]; exact ⟨by omega, by omega, hco⟩
        · rw [ratioOk_iff]; simp only [Int.natAbs_natCast, Int.natAbs_neg]; exact ⟨by omega, by omega, hco⟩

/-- The fraction by the other way of reckoning: reduce, then look whether it is valid. -/
theorem ratioOf_alt {n d : Int} (hn : isMin n = false) (hd : isMin d = false) (h0 : d ≠ 0) :
    ratioOf n d = if ratioOk ⟨n.tdiv (if d < 0 then -(gcdAll [n, d] : Int) else gcdAll [n, d]), d.tdiv (if d < 0 then -(gcdAll [n, d] : Int) else gcdAll [n, d])⟩
      then ⟨n.tdiv (if d < 0 then -(gcdAll [n, d] : Int) else gcdAll [n, d]), d.tdiv (if d < 0 then -(gcdAll [n, d] : Int) else gcdAll [n, d])⟩ else ratio0 := by
  have hdp : 0 < d.natAbs := by omega
  have hg : 0 < gcdAll [n, d] := by rw [gcd_pair]; exact Nat.gcd_pos_of_pos_right _ hdp
  have hdd : gcdAll [n, d] ∣ d.natAbs := by rw [gcd_pair]; exact Nat.gcd_dvd_right _ _
  have hpos : 0 < d.natAbs / gcdAll [n, d] := Nat.div_pos (Nat.le_of_dvd hdp hdd) hg
  have hco : Nat.gcd (n.natAbs / gcdAll [n, d]) (d.natAbs / gcdAll [n, d]) = 1 := by
    rw [gcd_pair]
    exact Nat.gcd_div_gcd_div_gcd_of_pos_right hdp
  unfold ratioOf
  rw [if_neg (by simp [hn, hd, h0])]
  generalize hG : gcdAll [n, d] = G at *
  have en : n.tdiv (if d < 0 then -(G : Int) else G) = if decide (n < 0) = decide (d < 0) then ((n.natAbs / G : Nat) : Int) else -((n.natAbs / G : Nat) : Int) := by
    rcases Int.lt_or_le d 0 with h | h <;> rcases Int.lt_or_le n 0 with h' | h'
    · rw [if_pos h, Int.tdiv_neg, tdiv_of_neg h', if_pos (by simp [h, h'])]; omega
    · rw [if_pos h, Int.tdiv_neg, tdiv_of_nonneg h', if_neg (by simp [h]; omega)]
    · rw [if_neg (by omega), tdiv_of_neg h', if_neg (by simp [h']; omega)]
    · rw [if_neg (by omega), tdiv_of_nonneg h', if_pos (by simp; omega)]
  have ed : d.tdiv (if d < 0 then -(G : Int) else G) = ((d.natAbs / G : Nat) : Int) := by
    rcases Int.lt_or_le d 0 with h | h
    · rw [if_pos h, Int.tdiv_neg, tdiv_of_neg h]; omega
    · rw [if_neg (by omega), tdiv_of_nonneg h]
  rw [en, ed]
  clear en ed hG
  generalize n.natAbs / G = top at *
  generalize d.natAbs / G = bel at *
  by_cases hbig : 1000000000000000000 < top ∨ 1000000000000000 < bel
  · rw [if_pos hbig, if_neg]
    rw [ratioOk_iff]
    dsimp only
    split <;> omega
  · by_cases hs : decide (n < 0) = decide (d < 0)
    · simp only [if_pos hs, if_neg hbig]
      rw [if_pos]
      rw [ratioOk_iff]
      exact ⟨by dsimp only; omega, by dsimp only; omega, by simpa using hco⟩
    · simp only [if_neg hs, if_neg hbig]
      rw [if_pos]
      rw [ratioOk_iff]
      exact ⟨by dsimp only; omega, by dsimp only; omega, by simpa using hco⟩

/-! ### Spots -/
def spotOk (s : Spot) : Bool := inR s.d 1 5000000000 && inR s.x (-1000 * s.d) (1000 * s.d) && inR s.y (-1000 * s.d) (1000 * s.d) && decide (gcdAll [s.x, s.y, s.d] = 1)
def redSpot (x y d : Int) : Spot := ⟨x.tdiv (gcdAll [x, y, d]), y.tdiv (gcdAll [x, y, d]), d.tdiv (gcdAll [x, y, d])⟩
def spotOf (x y d : Int) : Option Spot :=
  if d ≤ 0 ∨ isMin x = true ∨ isMin y = true then none
  else if spotOk (redSpot x y d) = true then some (redSpot x y d) else none
theorem spotOk_iff {s : Spot} : spotOk s = true ↔ (1 ≤ s.d ∧ s.d ≤ 5000000000) ∧ (-1000 * s.d ≤ s.x ∧ s.x ≤ 1000 * s.d) ∧ (-1000 * s.d ≤ s.y ∧ s.y ≤ 1000 * s.d) ∧ gcdAll [s.x, s.y, s.d] = 1 := by
  simp only [spotOk, Bool.and_eq_true, inR_iff, decide_eq_true_eq, and_assoc]

/-! ### Half planes -/
def halfOk (h : Half) : Bool := inR h.a (-50000) 50000 && inR h.b (-50000) 50000 && inR h.c (-100000000) 100000000 && !(decide (h.a = 0) && decide (h.b = 0)) && decide (gcdAll [h.a, h.b, h.c] = 1)
def redHalf (a b c : Int) : Half := ⟨a.tdiv (gcdAll [a, b, c]), b.tdiv (gcdAll [a, b, c]), c.tdiv (gcdAll [a, b, c])⟩
def halfOf (a b c : Int) : Option Half :=
  if gcdAll [a, b, c] = 0 ∨ isMin a = true ∨ isMin b = true ∨ isMin c = true then none
  else if halfOk (redHalf a b c) = true then some (redHalf a b c) else none
theorem halfOk_iff {h : Half} : halfOk h = true ↔ (-50000 ≤ h.a ∧ h.a ≤ 50000) ∧ (-50000 ≤ h.b ∧ h.b ≤ 50000) ∧ (-100000000 ≤ h.c ∧ h.c ≤ 100000000) ∧ ¬(h.a = 0 ∧ h.b = 0) ∧ gcdAll [h.a, h.b, h.c] = 1 := by
  simp only [halfOk, Bool.and_eq_true, inR_iff, decide_eq_true_eq, and_assoc, Bool.not_eq_true', Bool.and_eq_false_imp, decide_eq_false_iff_not, not_and]

/-! ### Pieces -/
def pieceOk (q : Piece) : Bool := inR q.d 1 1000000000000 && inR q.a (-1000000000000) 1000000000000 && inR q.b (-1000000000000) 1000000000000 && inR q.c (-1000000000000) 1000000000000 && decide (gcdAll [q.a, q.b, q.c, q.d] = 1)
theorem pieceOk_iff {q : Piece} : pieceOk q = true ↔ (1 ≤ q.d ∧ q.d ≤ 1000000000000) ∧ (-1000000000000 ≤ q.a ∧ q.a ≤ 1000000000000) ∧ (-1000000000000 ≤ q.b ∧ q.b ≤ 1000000000000) ∧ (-1000000000000 ≤ q.c ∧ q.c ≤ 1000000000000) ∧ gcdAll [q.a, q.b, q.c, q.d] = 1 := by
  simp only [pieceOk, Bool.and_eq_true, inR_iff, decide_eq_true_eq, and_assoc]
/-- The value of a piece at a spot, if both are valid and the denominator is small. -/
def pieceVal (q : Piece) (s : Spot) : Ratio := if 1000 < s.d then ratio0 else ratioOf (q.a * s.x + q.b * s.y + q.c * s.d) (q.d * s.d)
def pieceAt (q : Piece) (s : Spot) : Ratio := if pieceOk q = true ∧ spotOk s = true then pieceVal q s else ratio0
end Go.Proofs.Ytbdihgcjopbnjaa
