/-
 Whether a region contains a point: of the program.
 Conditions: valid half planes, valid points.
-/
import Derived.Test.YtdncnhcffbgjhaaGreatGrL
import Derived.Test.YtdncnhcffbgjhaaGreatGrR
import Derived.Test.YtdncnhcffbgjhaaGreatGrZ
import Derived.Test.YtdncnhcffbgjhaaGreatGrW
import Derived.Test.YtdncnhcffbgjhaaGreatGrS
import Derived.Test.YtdncnhcffbgjhaaGreatCnr
import Derived.Test.YtdncnhcffbgjhaaGreatGrU
section
namespace Go.Proofs.YtdncnhcffbgjhaaGreat
open Go.RowKit
def valS (h:Half) (s:Spot):Int:=h.a*s.x+h.b*s.y-h.c*s.d
def holdsH (s:Spot) (h:Half):Bool:=decide (valS h s≤0)
def holdsB (p:List Half) (s:Spot):Bool:=!decide (p.length=0)&&p.all (holdsH s)
def withinB (p q:List Half):Bool:=(corners p).all (holdsB q)
end Go.Proofs.YtdncnhcffbgjhaaGreat
end
section
namespace Go.Proofs.YtdncnhcffbgjhaaGreat
open Go.RowKit
end Go.Proofs.YtdncnhcffbgjhaaGreat
end
section
namespace Go.Proofs.YtdncnhcffbgjhaaGreat
open Go.RowKit
theorem getD_el {α:Type} {l:List α} {k:Nat} (h:k<l.length) (d:α):l.getD k d=l[k]:=by rw [List.getD_eq_getElem?_getD,List.getElem?_eq_getElem h,Option.getD_some]
theorem getD_mem {α:Type} {l:List α} {k:Nat} (h:k<l.length) (d:α):l.getD k d∈l:=by rw [getD_el h];exact List.getElem_mem h
end Go.Proofs.YtdncnhcffbgjhaaGreat
end
