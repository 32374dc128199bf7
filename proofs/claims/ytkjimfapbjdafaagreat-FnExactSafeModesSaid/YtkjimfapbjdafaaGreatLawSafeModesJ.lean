/-
 What the program says of FnExactSafeModes, by the kernel.
 Conditions: none.
-/
import Derived.Test.YtkjimfapbjdafaaGreatGrA
import Derived.JoinedOf
namespace Go.Proofs.YtkjimfapbjdafaaGreat
open Go.RowKit
theorem j1_SafeModes:(Rows.fnExactSafeModesRow.inPlace == Tryz.prog.inPlace 3)=true:=by kernel_rfl
theorem j2_SafeModes:(Rows.fnExactSafeModesRow.unfollowed == Tryz.prog.unfollowed 3)=true:=by kernel_rfl
end Go.Proofs.YtkjimfapbjdafaaGreat
