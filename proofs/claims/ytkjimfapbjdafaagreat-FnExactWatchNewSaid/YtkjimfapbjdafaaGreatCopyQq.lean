/-
 Copies of slices, of regions and of rooms: of the program and of the reference.
 Conditions: the slices hold at most 2^20 elements.
-/
import Derived.Lib.SliceRun
import Derived.Test.YtkjimfapbjdafaaGreatGrAQa
namespace Go.Proofs.YtkjimfapbjdafaaGreat
open Go.RowKit
theorem intC_one (x:Int):∀ u∈Y6 x,u.oneCell'=true:=by
 intro u hu;simp only [Y6,List.mem_cons,List.not_mem_nil,or_false] at hu;subst hu;rfl
end Go.Proofs.YtkjimfapbjdafaaGreat
