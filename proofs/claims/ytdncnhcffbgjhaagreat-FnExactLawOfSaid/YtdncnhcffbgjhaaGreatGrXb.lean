/-
 Whether a region is kept in one step: of the program.
 Conditions: the slices hold at most 2^20 elements.
-/
import Derived.Test.YtdncnhcffbgjhaaGreatPre
import Derived.Test.YtdncnhcffbgjhaaGreatGrXa
section
namespace Go.Proofs.YtdncnhcffbgjhaaGreat
open Go.RowKit
structure RoomR (r:Room):Prop where
 noise:regionOk r.noise=true
 nne:r.noise≠[]
 limits:regionOk r.limits=true
 lne:r.limits≠[]
def keptB (r:Room) (p:List Half):Bool:=!(!(roomOk r) || !(regionOk p) || !(withinB p r.limits))&&(preOk r p&&withinB p (preR r p))
end Go.Proofs.YtdncnhcffbgjhaaGreat
end
section
namespace Go.Proofs.YtdncnhcffbgjhaaGreat
open Go.RowKit
def logB (l:List Int):Bool:=l.all fun x=>inR x 1 3
def watchB (r:Room) (p:List Half) (l:List Int):Bool:=!decide ((l.length:Int) > 40)&&logB l&&(!decide (p.length=0)&&keptB r p)
end Go.Proofs.YtdncnhcffbgjhaaGreat
end
