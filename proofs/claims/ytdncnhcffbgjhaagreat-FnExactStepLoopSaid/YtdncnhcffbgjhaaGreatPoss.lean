/-
 PossibleStates of the program and of the reference: one function of mathematics.
-/
import Derived.Test.YtdncnhcffbgjhaaGreatShift
import Derived.Test.YtdncnhcffbgjhaaGreatGrA
import Derived.Test.YtdncnhcffbgjhaaGreatGrF
namespace Go.Proofs.YtdncnhcffbgjhaaGreat
open Go.RowKit
def sh (s : Spot) (dx dy : Int) : Nat → Option Spot
 | 0 => shiftSpot s (-dx) (-dy)
 | 1 => shiftSpot s dx (-dy)
 | 2 => shiftSpot s dx dy
 | _ => shiftSpot s (-dx) dy
def shs (s : Spot) (dx dy : Int) : Nat → Option (List Spot)
 | 0 => some []
 | k + 1 => match shs s dx dy k, sh s dx dy k with
  | some l, some t => some (l ++ [t])
  | _, _ => none
def possStates (s : Spot) (dx dy : Int) : Option (List Spot) :=
 if inR dx 0 100 = true ∧ inR dy 0 100 = true then shs s dx dy 4 else none
end Go.Proofs.YtdncnhcffbgjhaaGreat
