/-
 Growing along a direction: of the reference.
 Conditions: valid regions; directions of a room.
-/
import Derived.Test.YtdncnhcffbgjhaaGreatGrow
import Derived.Test.YtdncnhcffbgjhaaGreatGeo9
import Derived.Test.YtdncnhcffbgjhaaGreatFar
import Derived.Test.YtdncnhcffbgjhaaGreatGrXa
namespace Go.Proofs.YtdncnhcffbgjhaaGreat
open Go.RowKit
structure DirH (d:Half):Prop where
 a : -100≤d.a∧d.a≤100
 b : -100≤d.b∧d.b≤100
 nz:¬ (d.a=0∧d.b=0)
def drL (bx by_:Int):List Half:=[⟨-(by_.tdiv (gcdOf bx by_)),bx.tdiv (gcdOf bx by_),0⟩,⟨by_.tdiv (gcdOf bx by_),-(bx.tdiv (gcdOf bx by_)),0⟩]
def sdF (p:List Half) (d:Half):Option Half:=sdH p d.a d.b
def gwB (bx by_ lo hi:Int) (p:List Half):Bool:=movAll (growH bx by_ lo hi) p&&sdO p (dirA bx by_) (dirB bx by_)
def gwL (bx by_ lo hi:Int) (p:List Half):List Half:=if gwB bx by_ lo hi p=true then movL (growH bx by_ lo hi) p++movL (sdF p) (drL bx by_) else []
def gaOk (bx by_ lo hi:Int) (p:List Half):Bool:=decide (p.length≤38)&&grwOk bx by_ lo hi p
def gaR (bx by_ lo hi:Int) (p:List Half):List Half:=if p.length≤38 then grwR bx by_ lo hi p else []
end Go.Proofs.YtdncnhcffbgjhaaGreat
