/-
  PossibleStates of the program and of the reference: one function of mathematics.
-/
import Derived.Test.YtbdihgcjopbnjaaGreatShift
import Derived.Test.YtbdihgcjopbnjaaGreatGrA
import Derived.Test.YtbdihgcjopbnjaaGreatGrF
namespace Go.Proofs.YtbdihgcjopbnjaaGreat
open Go.RowKit

def sh (s : Spot) (dx dy : Int) : Nat → Option Spot
  | 0 => shiftSpot s (-dx) (-dy)
  | 1 => shiftSpot s dx (-dy)
  | 2 => shiftSpot s dx dy
  | _ => shiftSpot s (-dx) dy
def shs (s : Spot) (dx dy : Int) : Nat → Option (List Spot)
  | 0 => some []
  | k + 1 => match shs s dx dy k, sh s dx dy k with
    | some l, some t => some (l ++ [t])
    | _, _ => none
def possStates (s : Spot) (dx dy : Int) : Option (List Spot) :=
  if inR dx 0 100 = true ∧ inR dy 0 100 = true then shs s dx dy 4 else none

theorem shs_succ {s : Spot} {dx dy : Int} {k : Nat} {l : List Spot} {t : Spot} (h1 : shs s dx dy k = some l) (h2 : sh s dx dy k = some t) : shs s dx dy (k + 1) = some (l ++ [t]) := by
  rw [shs, h1, h2]
theorem shs_fail {s : Spot} {dx dy : Int} {k : Nat} (h : sh s dx dy k = none) : shs s dx dy (k + 1) = none := by
  rw [shs, h]; split <;> simp_all
theorem shs_up {s : Spot} {dx dy : Int} {k : Nat} (h : shs s dx dy k = none) : shs s dx dy (k + 1) = none := by
  rw [shs, h]
theorem shs_none {s : Spot} {dx dy : Int} {k : Nat} (h : sh s dx dy k = none) (hk : k < 4) : shs s dx dy 4 = none := by
  have h1 := shs_fail h
  obtain rfl | rfl | rfl | rfl : k = 0 ∨ k = 1 ∨ k = 2 ∨ k = 3 := by omega
  · exact shs_up (shs_up (shs_up h1))
  · exact shs_up (shs_up h1)
  · exact shs_up h1
  · exact h1
theorem shs_len {s : Spot} {dx dy : Int} : ∀ {k : Nat} {l : List Spot}, shs s dx dy k = some l → l.length = k
  | 0, l, h => by rw [shs] at h; injection h with h; subst h; rfl
  | k + 1, l, h => by
    rw [shs] at h
    cases h1 : shs s dx dy k with
    | none => rw [h1] at h; simp at h
    | some m =>
      cases h2 : sh s dx dy k with
      | none => rw [h1, h2] at h; simp at h
      | some t =>
        rw [h1, h2] at h
        injection h with h
        subst h
        rw [List.length_append, shs_len h1]; rfl
theorem poss_len {s : Spot} {dx dy : Int} : ((possStates s dx dy).getD []).length ≤ 4 := by
  unfold possStates
  split
  · cases h : shs s dx dy 4 with
    | none => simp
    | some l => have := shs_len h; simp; omega
  · simp
theorem poss_no {s : Spot} {dx dy : Int} (h : spotOk s = false) : possStates s dx dy = none := by
  unfold possStates
  split
  · exact shs_none (k := 0) (by rw [sh, shiftSpot, h]; simp) (by omega)
  · rfl
theorem spotC_one (t : Spot) : ∀ u ∈ spotC t, u.oneCell' = true := by
  intro u hu
  simp [spotC] at hu
  rcases hu with rfl | rfl | rfl <;> rfl

theorem isDrift_c (a : Int) (w : World) :
    Calls Tryz.prog 53 #[.int .i64 a] w fun e w' => e = .returned (.bool (inR a 0 100)) ∧ w = w' := by
  go_enter Tryz.func53, Tryz.ntmps53
  go_wp2_with (first | (go_at_call 88; refine (inRange_c _ _ _ _).mono ?_; rintro e w' ⟨rfl, rfl⟩))
  go_ret
  exact ⟨rfl, rfl⟩
end Go.Proofs.YtbdihgcjopbnjaaGreat
