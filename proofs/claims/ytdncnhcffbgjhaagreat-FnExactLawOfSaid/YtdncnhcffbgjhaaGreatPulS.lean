/-
 The region of the points that a map moves into a region: of the reference.
 Conditions: valid regions and maps.
-/
import Derived.Test.YtdncnhcffbgjhaaGreatVa
import Derived.Test.YtdncnhcffbgjhaaGreatPul
import Derived.Test.YtdncnhcffbgjhaaGreatCopy
namespace Go.Proofs.YtdncnhcffbgjhaaGreat
open Go.RowKit
theorem getD_halfOk {p:List Half} {k:Nat} (h:k<p.length) (hp:regionOk p=true):halfOk (p.getD k half0)=true:=by
 have e:p.getD k half0=p[k]:=by rw [List.getD_eq_getElem?_getD,List.getElem?_eq_getElem h,Option.getD_some]
 rw [e];exact reg_ok hp _ (List.getElem_mem h)
end Go.Proofs.YtdncnhcffbgjhaaGreat
