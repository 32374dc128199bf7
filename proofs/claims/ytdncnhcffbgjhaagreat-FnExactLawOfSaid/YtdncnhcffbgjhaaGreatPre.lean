/-
 The region from which an input leads into a region: of the program.
 Conditions: valid rooms and regions.
-/
import Derived.Test.YtdncnhcffbgjhaaGreatGrow
import Derived.Test.YtdncnhcffbgjhaaGreatGrV
namespace Go.Proofs.YtdncnhcffbgjhaaGreat
open Go.RowKit
def preE (r:Room) (p:List Half):List Half:=movR (eroH r.noise) p
def preG (r:Room) (p:List Half):List Half:=grwR r.bx r.by_ r.low r.high (preE r p)
def preA (r:Room) (p:List Half):Bool:=movOk (eroH r.noise) p&&decide ((preE r p).length≤38)
def preOk (r:Room) (p:List Half):Bool:=preA r p&&grwOk r.bx r.by_ r.low r.high (preE r p)&&movOk (pulH r.map r.div) (preG r p)
def preR (r:Room) (p:List Half):List Half:=if (preA r p&&grwOk r.bx r.by_ r.low r.high (preE r p))=true then movR (pulH r.map r.div) (preG r p) else []
end Go.Proofs.YtdncnhcffbgjhaaGreat
