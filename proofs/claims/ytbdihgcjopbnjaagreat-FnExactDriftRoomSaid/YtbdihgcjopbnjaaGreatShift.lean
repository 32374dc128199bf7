/-
  ShiftSpot of the program and of the reference: one function of mathematics.
-/
import Derived.Test.YtbdihgcjopbnjaaGreatGrD
import Derived.Deep.RegionHeld3
namespace Go.Proofs.YtbdihgcjopbnjaaGreat
open Go.RowKit

def shiftSpot (s : Spot) (dx dy : Int) : Option Spot :=
  if spotOk s = true ∧ inR dx (-2000) 2000 = true ∧ inR dy (-2000) 2000 = true then spotOf (s.x + dx * s.d) (s.y + dy * s.d) s.d else none

structure SB (s : Spot) (dx dy : Int) : Prop where
  d : 1 ≤ s.d ∧ s.d ≤ 5000000000
  x : -5000000000000 ≤ s.x ∧ s.x ≤ 5000000000000
  y : -5000000000000 ≤ s.y ∧ s.y ≤ 5000000000000
  m : -10000000000000 ≤ dx * s.d ∧ dx * s.d ≤ 10000000000000
  n : -10000000000000 ≤ dy * s.d ∧ dy * s.d ≤ 10000000000000

theorem mulD {a d : Int} (ha : -2000 ≤ a ∧ a ≤ 2000) (hd : 1 ≤ d ∧ d ≤ 5000000000) : -10000000000000 ≤ a * d ∧ a * d ≤ 10000000000000 := by
  have h1 : (2000 - a) * d ≥ 0 := Int.mul_nonneg (by omega) (by omega)
  have h2 : (a + 2000) * d ≥ 0 := Int.mul_nonneg (by omega) (by omega)
  rw [Int.sub_mul] at h1
  rw [Int.add_mul] at h2
  omega

theorem shiftBounds {s : Spot} {dx dy : Int} (hs : spotOk s = true) (h1 : inR dx (-2000) 2000 = true) (h2 : inR dy (-2000) 2000 = true) : SB s dx dy := by
  obtain ⟨⟨d1, d2⟩, ⟨x1, x2⟩, ⟨y1, y2⟩, _⟩ := spotOk_iff.1 hs
  exact ⟨⟨d1, d2⟩, ⟨by omega, by omega⟩, ⟨by omega, by omega⟩, mulD (inR_iff.1 h1) ⟨d1, d2⟩, mulD (inR_iff.1 h2) ⟨d1, d2⟩⟩

end Go.Proofs.YtbdihgcjopbnjaaGreat
