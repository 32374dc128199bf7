/-
 The inputs that are admitted under a drift: of the program and of the reference.
 Conditions: the slices hold at most 2^20 elements.
-/
import Derived.Test.YtkjimfapbjdafaaGreatV1
import Derived.Test.YtkjimfapbjdafaaGreatGrXg
namespace Go.Proofs.YtkjimfapbjdafaaGreat
open Go.RowKit
end Go.Proofs.YtkjimfapbjdafaaGreat
namespace Go.Proofs.YtkjimfapbjdafaaGreat
open Go.RowKit
def ratFloor (r:XX):Int:=if Xy r=true then r.n / r.d else 0
def ratCeil (r:XX):Int:=if Xy r=true then -(-r.n / r.d) else 0
def inSpan (w:Km) (u:XX):Bool:=YD w&&Xy u&&decide (Xz w.low u≤0)&&decide (Xz u w.high≤0)
def clampW (wish:Int):Int:=max (-1000) (min 1000 wish)
def pick (v:Km) (wish:Int):XX :=
 if YD v=true then
  (if Xz ⟨clampW wish,1⟩ v.low<0 then (if Xz ⟨ratCeil v.low,1⟩ v.high≤0 then ⟨ratCeil v.low,1⟩ else v.low)
  else if Xz ⟨clampW wish,1⟩ v.high > 0 then (if Xz ⟨ratFloor v.high,1⟩ v.low ≥ 0 then ⟨ratFloor v.high,1⟩ else v.high)
  else ⟨clampW wish,1⟩)
 else Yo
section
variable {v:Km} {wish:Int} (h:YD v=true)
include h
end
end Go.Proofs.YtkjimfapbjdafaaGreat
namespace Go.Proofs.YtkjimfapbjdafaaGreat
open Go.RowKit
end Go.Proofs.YtkjimfapbjdafaaGreat
namespace Go.Proofs.YtkjimfapbjdafaaGreat
open Go.RowKit
def drivenOk (u:XX):Bool:=Xy u&&YC u.n (-1000*u.d) (1000*u.d)
def nxtX (r:XJ) (s:XC) (u:XX) (v:XC):Int:=(mapX r s*u.d+r.bx*u.n*Yv r s)*v.d+v.x*(Yv r s*u.d)
def nxtY (r:XJ) (s:XC) (u:XX) (v:XC):Int:=(mapY r s*u.d+r.by_*u.n*Yv r s)*v.d+v.y*(Yv r s*u.d)
def nxtD (r:XJ) (s:XC) (u:XX) (v:XC):Int:=Yv r s*u.d*v.d
def nxtS (r:XJ) (s:XC) (u:XX) (v:XC):Option XC:=YG (nxtX r s u v) (nxtY r s u v) (nxtD r s u v)
def nxtBad (r:XJ) (s:XC) (u:XX) (v:XC):Bool:=!(XU r) || !(XQ s) || !(Xy u) || !(XQ v)||decide (s.d > 100000)||decide (v.d > 1000)||decide (u.d > 1000) || !(YC u.n (-1000*u.d) (1000*u.d))
def nxtO (r:XJ) (s:XC) (u:XX) (v:XC):Option XC:=if nxtBad r s u v=true then none else nxtS r s u v
def nxtBadI (s:XC) (u:XX) (v:XC):Bool:=!(XQ s) || !(XQ v)||decide (s.d > 100000)||decide (v.d > 1000)||decide (u.d > 1000) || !(drivenOk u)
structure NxtIn (r:XJ) (s:XC) (u:XX) (v:XC):Prop where
 room:XU r=true
 sok:XQ s=true
 vok:XQ v=true
 sd:s.d≤100000
 vd:v.d≤1000
 ud:1≤u.d∧u.d≤1000
 un : -1000*u.d≤u.n∧u.n≤1000*u.d
/-- One step of the loop, from the inputs that are admitted. -/
def stepG (o:Option Km) (r:XJ) (s:XC) (wish:Int) (v:XC):Option (XC × XX):=o.bind fun a=>(nxtO r s (pick a wish) v).map fun t=>(t,pick a wish)
def stepL (r:XJ) (p:List Half) (s:XC) (wish:Int) (v:XC):Option (XC × XX):=stepG (X6 r p s) r s wish v
def step0:XC × XX:=(sp0,⟨0,0⟩)
def optStepV (o:Option (XC × XX)):Value:=.tuple #[Zi (o.getD step0).1,X9 (o.getD step0).2,.bool o.isSome]
end Go.Proofs.YtkjimfapbjdafaaGreat
namespace Go.Proofs.YtkjimfapbjdafaaGreat
open Go.RowKit
def whoN (w:Km):Int:=if (YD w&&drivenOk w.low&&drivenOk w.high)=true then max (ratFloor w.high-ratCeil w.low+1) 0 else 0
end Go.Proofs.YtkjimfapbjdafaaGreat
section
namespace Go.Proofs.YtkjimfapbjdafaaGreat
open Go.RowKit
end Go.Proofs.YtkjimfapbjdafaaGreat
end
section
namespace Go.Proofs.YtkjimfapbjdafaaGreat
open Go.RowKit
def admS (r:XJ) (e:List Half) (s:XC):Option Km:=if XQ s=true then Yi r e s else none
end Go.Proofs.YtkjimfapbjdafaaGreat
end
