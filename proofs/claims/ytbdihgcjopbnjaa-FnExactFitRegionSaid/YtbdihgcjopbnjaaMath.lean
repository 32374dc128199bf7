/-
  The plain mathematics that the program computes: ranges, divisors, fractions, spots, half planes. No program is named here.
  Conditions: none.
-/
import Derived.Test.YtbdihgcjopbnjaaBase
namespace Go.Proofs.Ytbdihgcjopbnjaa
open Go.RowKit

def inR (a b c : Int) : Bool := decide (b ≤ a) && decide (a ≤ c)
theorem inR_iff {a b c : Int} : inR a b c = true ↔ b ≤ a ∧ a ≤ c := by simp [inR]
theorem inR_false {a b c : Int} : inR a b c = false ↔ a < b ∨ c < a := by
  simp [inR]; omega

/-- The ints of the machine. -/
structure In64 (a : Int) : Prop where
  lo : -9223372036854775808 ≤ a
  hi : a ≤ 9223372036854775807

def isMin (a : Int) : Bool := decide (a = -9223372036854775808)

/-- The greatest common divisor of the magnitudes. -/
def gcdAll (l : List Int) : Nat := l.foldl (fun g n => Nat.gcd g n.natAbs) 0
def gcdOf (a b : Int) : Int := if isMin a || isMin b then 0 else ((Nat.gcd a.natAbs b.natAbs : Nat) : Int)

def intC (n : Int) : List Value := [.int .i64 n]
theorem intC_len (n : Int) : (intC n).length = 1 := rfl

theorem gcdAll_snoc (l : List Int) (n : Int) : gcdAll (l ++ [n]) = Nat.gcd (gcdAll l) n.natAbs := by simp [gcdAll, List.foldl_append]
theorem take_succ' {α : Type} (l : List α) (k : Nat) (h : k < l.length) : l.take (k + 1) = l.take k ++ [l[k]] := by
  rw [List.take_succ_eq_append_getElem h]
theorem gcdAll_le (l : List Int) (h : ∀ n ∈ l, In64 n) : gcdAll l ≤ 9223372036854775808 := by
  have key : ∀ (l : List Int) (g : Nat), (∀ n ∈ l, In64 n) → g ≤ 9223372036854775808 → l.foldl (fun g n => Nat.gcd g n.natAbs) g ≤ 9223372036854775808 := by
    intro l
    induction l with
    | nil => intro g _ hg; exact hg
    | cons n l ih =>
      intro g hl hg
      refine ih _ (fun m hm => hl m (by simp [hm])) ?_
      show Nat.gcd g n.natAbs ≤ _
      have hn := hl n (by simp)
      by_cases h0 : n.natAbs = 0
      · rw [h0, Nat.gcd_zero_right]; exact hg
      · have := Nat.gcd_le_right g (Nat.pos_of_ne_zero h0)
        have := hn.lo; have := hn.hi; omega
  exact key l 0 h (by omega)
theorem natAbs_le {a : Int} (h : In64 a) : a.natAbs ≤ 9223372036854775808 := by have := h.lo; have := h.hi; omega

theorem tdiv_nat (n g : Nat) : (n : Int).tdiv (g : Int) = ((n / g : Nat) : Int) := rfl
theorem tdiv_of_nonneg {a : Int} (h : 0 ≤ a) (g : Nat) : a.tdiv g = ((a.natAbs / g : Nat) : Int) := by
  obtain ⟨n, rfl⟩ := Int.eq_ofNat_of_zero_le h
  rw [tdiv_nat]; simp
theorem tdiv_of_neg {a : Int} (h : a < 0) (g : Nat) : a.tdiv g = -((a.natAbs / g : Nat) : Int) := by
  obtain ⟨n, hn⟩ := Int.eq_ofNat_of_zero_le (a := -a) (by omega)
  obtain rfl : a = -(n : Int) := by omega
  rw [Int.neg_tdiv, tdiv_nat]; simp
theorem div_nonneg (n g : Nat) : (0 : Int) ≤ (n : Int) / (g : Int) := by rw [← Int.natCast_ediv]; exact Int.natCast_nonneg _
theorem div_le (n g : Nat) (B : Int) (h : (n : Int) ≤ B) : (n : Int) / (g : Int) ≤ B := by
  rw [← Int.natCast_ediv]
  exact Int.le_trans (Int.ofNat_le.2 (Nat.div_le_self n g)) h
theorem gcd_pair (a b : Int) : gcdAll [a, b] = Nat.gcd a.natAbs b.natAbs := by simp [gcdAll]
theorem gcdOf_eq (a b : Int) : gcdOf a b = if isMin a || isMin b then 0 else ((gcdAll [a, b] : Nat) : Int) := by rw [gcd_pair]; rfl
theorem isMin_false {a : Int} (h : In64 a) (hm : isMin a = false) : -9223372036854775807 ≤ a ∧ a ≤ 9223372036854775807 := by
  have := h.lo; have := h.hi
  simp [isMin] at hm
  omega
theorem gcd_pair_le {a b : Int} (ha : In64 a) (hb : In64 b) (h1 : isMin a = false) (h2 : isMin b = false) : gcdAll [a, b] ≤ 9223372036854775807 := by
  have h3 := isMin_false ha h1
  have h4 := isMin_false hb h2
  rw [gcd_pair]
  by_cases h0 : a = 0
  · subst h0; simp; omega
  · have := Nat.gcd_le_left b.natAbs (m := a.natAbs) (by omega)
    omega
end Go.Proofs.Ytbdihgcjopbnjaa
