/-
 What the program says of FnExactSafeModes, by the kernel.
 Conditions: none.
-/
import Derived.Test.YtkjimfapbjdafaaGreatGrA
import Derived.JoinedOf
namespace Go.Proofs.YtkjimfapbjdafaaGreat
open Go.RowKit
theorem j3_SafeModes:(Rows.fnExactSafeModesRow.recurses == Tryz.prog.recurses 3)=true:=by kernel_rfl
theorem j4_SafeModes:(Rows.fnExactSafeModesRow.named == Tryz.prog.varsNamed 3)=true:=by kernel_rfl
end Go.Proofs.YtkjimfapbjdafaaGreat
