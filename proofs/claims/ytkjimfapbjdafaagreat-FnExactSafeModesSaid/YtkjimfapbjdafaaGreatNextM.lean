/-
 The next spot of a room and a step of the loop: what both compute. No program is named here.
 Conditions: none.
-/
import Derived.Test.YtkjimfapbjdafaaGreatV4
namespace Go.Proofs.YtkjimfapbjdafaaGreat
open Go.RowKit
def Y3 (u:Yd):Bool:=Xp u&&YR u.n (-1000*u.d) (1000*u.d)
def nxtX (r:XN) (s:XJ) (u:Yd) (v:XJ):Int:=(mapX r s*u.d+r.bx*u.n*YC r s)*v.d+v.x*(YC r s*u.d)
def nxtY (r:XN) (s:XJ) (u:Yd) (v:XJ):Int:=(mapY r s*u.d+r.by_*u.n*YC r s)*v.d+v.y*(YC r s*u.d)
def nxtD (r:XN) (s:XJ) (u:Yd) (v:XJ):Int:=YC r s*u.d*v.d
def nxtS (r:XN) (s:XJ) (u:Yd) (v:XJ):Option XJ:=Zl (nxtX r s u v) (nxtY r s u v) (nxtD r s u v)
def nxtBad (r:XN) (s:XJ) (u:Yd) (v:XJ):Bool:=!(XU r) || !(X9 s) || !(Xp u) || !(X9 v)||decide (s.d > 100000)||decide (v.d > 1000)||decide (u.d > 1000) || !(YR u.n (-1000*u.d) (1000*u.d))
def nxtO (r:XN) (s:XJ) (u:Yd) (v:XJ):Option XJ:=if nxtBad r s u v=true then none else nxtS r s u v
def nxtBadI (s:XJ) (u:Yd) (v:XJ):Bool:=!(X9 s) || !(X9 v)||decide (s.d > 100000)||decide (v.d > 1000)||decide (u.d > 1000) || !(Y3 u)
structure NxtIn (r:XN) (s:XJ) (u:Yd) (v:XJ):Prop where
 room:XU r=true
 sok:X9 s=true
 vok:X9 v=true
 sd:s.d≤100000
 vd:v.d≤1000
 ud:1≤u.d∧u.d≤1000
 un : -1000*u.d≤u.n∧u.n≤1000*u.d
/-- One step of the loop, from the inputs that are admitted. -/
def stepG (o:Option YX) (r:XN) (s:XJ) (wish:Int) (v:XJ):Option (XJ × Yd):=o.bind fun a=>(nxtO r s (pick a wish) v).map fun t=>(t,pick a wish)
def stepL (r:XN) (p:List Half) (s:XJ) (wish:Int) (v:XJ):Option (XJ × Yd):=stepG (XO r p s) r s wish v
def step0:XJ × Yd:=(Zb,⟨0,0⟩)
def optStepV (o:Option (XJ × Yd)):Value:=.tuple #[Yz (o.getD step0).1,X6 (o.getD step0).2,.bool o.isSome]
end Go.Proofs.YtkjimfapbjdafaaGreat
