/-
 The meet of a valid region and half planes: its edges are edges of the one or among the others, so it is valid again; the order of the half planes doesn't matter. No program is named here.
 Conditions: none.
-/
import Derived.Test.YtkjimfapbjdafaaGreatGrR
import Derived.Test.YtkjimfapbjdafaaGreatGrA
import Derived.JoinedOf
import Derived.Test.YtkjimfapbjdafaaGreatGrT
import Derived.Test.YtkjimfapbjdafaaGreatGrN
import Derived.Deep.DeepCutAuto
namespace Go.Proofs.YtkjimfapbjdafaaGreat
open Go.RowKit
namespace Go.Proofs.YtkjimfapbjdafaaGreat
open Go.RowKit Go.ChangeShapes Go.WideShapes Go.ChangeAt Go.Deep
theorem j3_SafeModes:(Rows.fnExactSafeModesRow.recurses == Tryz.prog.recurses 3)=true:=by kernel_rfl
theorem j4_SafeModes:(Rows.fnExactSafeModesRow.named == Tryz.prog.varsNamed 3)=true:=by kernel_rfl
end Go.Proofs.YtkjimfapbjdafaaGreat
namespace Go.Proofs.YtkjimfapbjdafaaGreat
open Go.RowKit Go.ChangeShapes Go.WideShapes Go.ChangeAt Go.Deep
theorem j1_SafeModes:(Rows.fnExactSafeModesRow.inPlace == Tryz.prog.inPlace 3)=true:=by kernel_rfl
theorem j2_SafeModes:(Rows.fnExactSafeModesRow.unfollowed == Tryz.prog.unfollowed 3)=true:=by kernel_rfl
end Go.Proofs.YtkjimfapbjdafaaGreat
namespace Go.Proofs.YtkjimfapbjdafaaGreat
open Go.RowKit
def lawSpan (x:Law) (s:XC):Km:=⟨(actL x s).2,(actH x s).2⟩
def lawAtOk (x:Law) (s:XC):Bool:=lawOk x&&YD (lawSpan x s)
def lawAt (x:Law) (s:XC):Km:=if lawAtOk x s=true then lawSpan x s else XW
end Go.Proofs.YtkjimfapbjdafaaGreat
