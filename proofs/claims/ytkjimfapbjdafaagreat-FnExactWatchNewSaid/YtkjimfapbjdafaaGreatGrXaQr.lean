/-
 Whether a region contains a point: of the program.
 Conditions: valid half planes, valid points.
-/
import Derived.Test.YtkjimfapbjdafaaGreatGrUQg
import Derived.Test.YtkjimfapbjdafaaGreatGrGQk
namespace Go.Proofs.YtkjimfapbjdafaaGreat
open Go.RowKit
theorem within_step {C:List Ya} {q:List Half} {k:Nat} (h:k<C.length) (h1:(C.take k).all (Ze q)=true) (hb:Ze q C[k]=true):(C.take (k+1)).all (Ze q)=true:=by
 rw [List.take_add_one,List.getElem?_eq_getElem h,List.all_append,h1];simp [hb]
theorem within_next {C:List Ya} {q:List Half} {k:Nat} (h:k<C.length) (h1:(C.take k).all (Ze q)=true) (hb:Ze q (C.getD k XU)=true):(C.take (k+1)).all (Ze q)=true:=by
 rw [getD_el h] at hb;exact within_step h h1 hb
end Go.Proofs.YtkjimfapbjdafaaGreat
