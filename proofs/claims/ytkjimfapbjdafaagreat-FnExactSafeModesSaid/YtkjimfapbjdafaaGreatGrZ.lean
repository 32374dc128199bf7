/-
 ShiftSpot of the program and of the reference: one function of mathematics.
-/
import Derived.Test.YtkjimfapbjdafaaGreatGrD
import Derived.Deep.RegionHeld3
import Derived.Test.YtkjimfapbjdafaaGreatGrA
import Derived.Test.YtkjimfapbjdafaaGreatGrF
import Derived.Test.YtkjimfapbjdafaaGreatGrL
import Derived.Test.YtkjimfapbjdafaaGreatGrR
import Derived.Test.YtkjimfapbjdafaaGreatGrW
import Derived.Test.YtkjimfapbjdafaaGreatGrS
import Derived.Test.YtkjimfapbjdafaaGreatCnr
import Derived.Test.YtkjimfapbjdafaaGreatGrU
section
namespace Go.Proofs.YtkjimfapbjdafaaGreat
open Go.RowKit
def shiftSpot (s:XC) (dx dy:Int):Option XC :=
 if XQ s=true∧YC dx (-2000) 2000=true∧YC dy (-2000) 2000=true then YG (s.x+dx*s.d) (s.y+dy*s.d) s.d else none
structure SB (s:XC) (dx dy:Int):Prop where
 d:1≤s.d∧s.d≤5000000000
 x : -5000000000000≤s.x∧s.x≤5000000000000
 y : -5000000000000≤s.y∧s.y≤5000000000000
 m : -10000000000000≤dx*s.d∧dx*s.d≤10000000000000
 n : -10000000000000≤dy*s.d∧dy*s.d≤10000000000000
end Go.Proofs.YtkjimfapbjdafaaGreat
end
section
namespace Go.Proofs.YtkjimfapbjdafaaGreat
open Go.RowKit
def sh (s:XC) (dx dy:Int):Nat→Option XC
 | 0=>shiftSpot s (-dx) (-dy)
 | 1=>shiftSpot s dx (-dy)
 | 2=>shiftSpot s dx dy
 | _=>shiftSpot s (-dx) dy
def shs (s:XC) (dx dy:Int):Nat→Option (List XC)
 | 0=>some []
 | k+1=>match shs s dx dy k,sh s dx dy k with
  | some l,some t=>some (l++[t])
  | _,_=>none
def possStates (s:XC) (dx dy:Int):Option (List XC) :=
 if YC dx 0 100=true∧YC dy 0 100=true then shs s dx dy 4 else none
end Go.Proofs.YtkjimfapbjdafaaGreat
end
section
namespace Go.Proofs.YtkjimfapbjdafaaGreat
open Go.RowKit
def valS (h:Half) (s:XC):Int:=h.a*s.x+h.b*s.y-h.c*s.d
def holdsH (s:XC) (h:Half):Bool:=decide (valS h s≤0)
def holdsB (p:List Half) (s:XC):Bool:=!decide (p.length=0)&&p.all (holdsH s)
def withinB (p q:List Half):Bool:=(Yj p).all (holdsB q)
end Go.Proofs.YtkjimfapbjdafaaGreat
end
section
namespace Go.Proofs.YtkjimfapbjdafaaGreat
open Go.RowKit
end Go.Proofs.YtkjimfapbjdafaaGreat
end
section
namespace Go.Proofs.YtkjimfapbjdafaaGreat
open Go.RowKit
theorem getD_el {α:Type} {l:List α} {k:Nat} (h:k<l.length) (d:α):l.getD k d=l[k]:=by rw [List.getD_eq_getElem?_getD,List.getElem?_eq_getElem h,Option.getD_some]
theorem getD_mem {α:Type} {l:List α} {k:Nat} (h:k<l.length) (d:α):l.getD k d∈l:=by rw [getD_el h];exact List.getElem_mem h
end Go.Proofs.YtkjimfapbjdafaaGreat
end
