/-
 Parts of the inputs that a region admits: of the program and of the reference.
 Conditions: valid rooms, half planes and states.
-/
import Derived.Test.YtkjimfapbjdafaaGreatGrV
namespace Go.Proofs.YtkjimfapbjdafaaGreat
open Go.RowKit
variable {r:X3} {s:Ya} {e:List Half} {k:Nat} {v:ZP} {h:Half}
end Go.Proofs.YtkjimfapbjdafaaGreat
namespace Go.Proofs.YtkjimfapbjdafaaGreat
open Go.RowKit
def Yd (r:YA):Int:=if Xr r=true then r.n / r.d else 0
def Ym (r:YA):Int:=if Xr r=true then -(-r.n / r.d) else 0
def ZM (wish:Int):Int:=max (-1000) (min 1000 wish)
def pick (v:ZP) (wish:Int):YA :=
 if Yg v=true then
  (if XC ⟨ZM wish,1⟩ v.low<0 then (if XC ⟨Ym v.low,1⟩ v.high<=0 then ⟨Ym v.low,1⟩ else v.low)
  else if XC ⟨ZM wish,1⟩ v.high > 0 then (if XC ⟨Yd v.high,1⟩ v.low ≥ 0 then ⟨Yd v.high,1⟩ else v.high)
  else ⟨ZM wish,1⟩)
 else Z8
section
variable {v:ZP} {wish:Int} (h:Yg v=true)
include h
end
end Go.Proofs.YtkjimfapbjdafaaGreat
