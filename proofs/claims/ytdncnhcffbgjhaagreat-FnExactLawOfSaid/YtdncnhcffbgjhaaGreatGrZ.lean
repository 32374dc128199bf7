/-
 ShiftSpot of the program and of the reference: one function of mathematics.
-/
import Derived.Test.YtdncnhcffbgjhaaGreatGrD
import Derived.Deep.RegionHeld3
import Derived.Test.YtdncnhcffbgjhaaGreatGrA
import Derived.Test.YtdncnhcffbgjhaaGreatGrF
section
namespace Go.Proofs.YtdncnhcffbgjhaaGreat
open Go.RowKit
def shiftSpot (s:Spot) (dx dy:Int):Option Spot :=
 if spotOk s=true∧inR dx (-2000) 2000=true∧inR dy (-2000) 2000=true then spotOf (s.x+dx*s.d) (s.y+dy*s.d) s.d else none
structure SB (s:Spot) (dx dy:Int):Prop where
 d:1≤s.d∧s.d≤5000000000
 x : -5000000000000≤s.x∧s.x≤5000000000000
 y : -5000000000000≤s.y∧s.y≤5000000000000
 m : -10000000000000≤dx*s.d∧dx*s.d≤10000000000000
 n : -10000000000000≤dy*s.d∧dy*s.d≤10000000000000
end Go.Proofs.YtdncnhcffbgjhaaGreat
end
section
namespace Go.Proofs.YtdncnhcffbgjhaaGreat
open Go.RowKit
def sh (s:Spot) (dx dy:Int):Nat→Option Spot
 | 0=>shiftSpot s (-dx) (-dy)
 | 1=>shiftSpot s dx (-dy)
 | 2=>shiftSpot s dx dy
 | _=>shiftSpot s (-dx) dy
def shs (s:Spot) (dx dy:Int):Nat→Option (List Spot)
 | 0=>some []
 | k+1=>match shs s dx dy k,sh s dx dy k with
  | some l,some t=>some (l++[t])
  | _,_=>none
def possStates (s:Spot) (dx dy:Int):Option (List Spot) :=
 if inR dx 0 100=true∧inR dy 0 100=true then shs s dx dy 4 else none
end Go.Proofs.YtdncnhcffbgjhaaGreat
end
