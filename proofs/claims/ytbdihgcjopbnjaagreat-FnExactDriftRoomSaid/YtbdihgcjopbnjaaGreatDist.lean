/-
  MostDistant: of the program and of the reference.
  Conditions: the slices hold at most 2^20 elements.
-/
import Derived.Test.YtbdihgcjopbnjaaGreatGrA
import Derived.Test.YtbdihgcjopbnjaaGreatGrG
import Derived.Test.YtbdihgcjopbnjaaGreatGrE
import Derived.Test.YtbdihgcjopbnjaaGreatGrS
namespace Go.Proofs.YtbdihgcjopbnjaaGreat
open Go.RowKit

def sp0 : Spot := ⟨0, 0, 0⟩
def farNum (xs : List Spot) (a b : Int) (k : Nat) : Int := a * (xs.getD k sp0).x + b * (xs.getD k sp0).y
def farDen (xs : List Spot) (k : Nat) : Int := (xs.getD k sp0).d
/-- The first most distant one of the first k points: its number and the two parts of its value. -/
def farAt (xs : List Spot) (a b : Int) : Nat → Int × Int × Int
  | 0 => (-1, 0, 0)
  | k + 1 => if (farAt xs a b k).1 < 0 ∨ 0 < cmpF (farNum xs a b k) (farDen xs k) (farAt xs a b k).2.1 (farAt xs a b k).2.2 then ((k : Int), farNum xs a b k, farDen xs k) else farAt xs a b k
def farAll (xs : List Spot) : Bool := (List.range xs.length).all fun k => spotOk (xs.getD k sp0)
def mostDistant (xs : List Spot) (a b : Int) : Int := if inR a (-1000) 1000 = true ∧ inR b (-1000) 1000 = true ∧ farAll xs = true then (farAt xs a b xs.length).1 else -1
theorem farAll_no {xs : List Spot} {k : Nat} (h : k < xs.length) (hk : spotOk xs[k] = false) : farAll xs = false := by
  unfold farAll; rw [List.all_eq_false]
  refine ⟨k, List.mem_range.2 h, ?_⟩
  rw [List.getD_eq_getElem?_getD, List.getElem?_eq_getElem h]; simpa using hk
theorem farAll_yes {xs : List Spot} (h : ∀ k, k < xs.length → spotOk (xs.getD k sp0) = true) : farAll xs = true := by
  unfold farAll; rw [List.all_eq_true]; intro k hk; exact h k (List.mem_range.1 hk)
theorem far_get {xs : List Spot} {k : Nat} (h : k < xs.length) : xs.getD k sp0 = xs[k] := by
  rw [List.getD_eq_getElem?_getD, List.getElem?_eq_getElem h]; rfl
theorem farAt_yes {xs : List Spot} {a b : Int} {k : Nat} (h : (farAt xs a b k).1 < 0 ∨ 0 < cmpF (farNum xs a b k) (farDen xs k) (farAt xs a b k).2.1 (farAt xs a b k).2.2) : farAt xs a b (k + 1) = ((k : Int), farNum xs a b k, farDen xs k) := by
  rw [farAt, if_pos h]
theorem farAt_no {xs : List Spot} {a b : Int} {k : Nat} (h : ¬((farAt xs a b k).1 < 0 ∨ 0 < cmpF (farNum xs a b k) (farDen xs k) (farAt xs a b k).2.1 (farAt xs a b k).2.2)) : farAt xs a b (k + 1) = farAt xs a b k := by
  rw [farAt, if_neg h]
/-- Bounds of a value's parts. -/
structure FarB (q : Spot) (a b : Int) : Prop where
  x : -5000000000000000 ≤ a * q.x ∧ a * q.x ≤ 5000000000000000
  y : -5000000000000000 ≤ b * q.y ∧ b * q.y ≤ 5000000000000000
  d : 1 ≤ q.d ∧ q.d ≤ 5000000000
theorem farB {q : Spot} {a b : Int} (hq : spotOk q = true) (ha : inR a (-1000) 1000 = true) (hb : inR b (-1000) 1000 = true) : FarB q a b := by
  obtain ⟨h1, h2, h3, _⟩ := spotOk_iff.1 hq
  obtain ⟨a1, a2⟩ := inR_iff.1 ha
  obtain ⟨b1, b2⟩ := inR_iff.1 hb
  have p := mulB (a := a) (b := q.x) (A := 1000) (B := 5000000000000) ⟨by omega, by omega⟩ ⟨by omega, by omega⟩
  have r := mulB (a := b) (b := q.y) (A := 1000) (B := 5000000000000) ⟨by omega, by omega⟩ ⟨by omega, by omega⟩
  exact ⟨⟨by omega, by omega⟩, ⟨by omega, by omega⟩, h1⟩
theorem farAt_bd {xs : List Spot} {a b : Int} (ha : inR a (-1000) 1000 = true) (hb : inR b (-1000) 1000 = true) : ∀ k : Nat, (∀ j, j < k → spotOk (xs.getD j sp0) = true) →
    (-1 ≤ (farAt xs a b k).1 ∧ (farAt xs a b k).1 < (k : Int)) ∧ (-10000000000000000 ≤ (farAt xs a b k).2.1 ∧ (farAt xs a b k).2.1 ≤ 10000000000000000) ∧ ((farAt xs a b k).1 < 0 ∨ 1 ≤ (farAt xs a b k).2.2) ∧ (0 ≤ (farAt xs a b k).2.2 ∧ (farAt xs a b k).2.2 ≤ 5000000000)
  | 0, _ => by simp [farAt]
  | k + 1, h => by
    have := farAt_bd ha hb k (fun j hj => h j (by omega))
    have hB := farB (h k (by omega)) ha hb
    have h1 := hB.x
    have h2 := hB.y
    have h3 := hB.d
    rw [farAt]; split
    · simp only [farNum, farDen]
      exact ⟨⟨by omega, by omega⟩, ⟨by omega, by omega⟩, .inr (by omega), ⟨by omega, by omega⟩⟩
    · refine ⟨⟨by omega, by omega⟩, this.2⟩
/-- The stored value of the reference. -/
def farR (p : Int × Int × Int) : Ratio := if p.1 < 0 then ratio0 else ratioOf p.2.1 p.2.2
theorem farR_new (k : Nat) (n d : Int) : farR ((k : Int), n, d) = ratioOf n d := if_neg (by simp only; omega)
theorem farR_in {p : Int × Int × Int} (h1 : -10000000000000000 ≤ p.2.1 ∧ p.2.1 ≤ 10000000000000000) (h2 : p.1 < 0 ∨ 1 ≤ p.2.2) (h3 : p.2.2 ≤ 5000000000) : (farR p).In := by
  unfold farR; split
  · exact ⟨⟨by decide, by decide⟩, ⟨by decide, by decide⟩⟩
  · exact ratioOf_in ⟨by omega, by omega⟩ ⟨by omega, by omega⟩

end Go.Proofs.YtbdihgcjopbnjaaGreat
