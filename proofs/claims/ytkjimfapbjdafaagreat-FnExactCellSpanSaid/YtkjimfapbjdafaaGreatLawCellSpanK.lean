/-
 What the program says of FnExactCellSpan, by the kernel.
 Conditions: none.
-/
import Derived.JoinedOf
import Derived.StillTailTactics
import Derived.Deep.DeepCutAuto
import Derived.Test.YtkjimfapbjdafaaGreatGrGQc
import Derived.ProofKit
import Derived.OpenShut
import Derived.ChangeOld
import Derived.Below
import Derived.Test.YtkjimfapbjdafaaGreatGrOQc
set_option maxRecDepth 100000
namespace Go.Proofs.YtkjimfapbjdafaaGreat
open Go.RowKit
theorem j3_CellSpan:(Rows.fnExactCellSpanRow.recurses == Tryz.prog.recurses 7)=true:=by kernel_rfl
theorem j4_CellSpan:(Rows.fnExactCellSpanRow.named == Tryz.prog.varsNamed 7)=true:=by kernel_rfl
theorem j1_CellSpan:(Rows.fnExactCellSpanRow.inPlace == Tryz.prog.inPlace 7)=true:=by kernel_rfl
theorem j2_CellSpan:(Rows.fnExactCellSpanRow.unfollowed == Tryz.prog.unfollowed 7)=true:=by kernel_rfl
theorem eqRatio_t (x:YO) (w:World) :
 Calls Tryz.prog 59 #[X9 x,X9 x] w λ e w'=>e=.returned (.bool true)/\Below w.heap.size w w':=by
 go_enter Tryz.func59,Tryz.ntmps59
 go_wp2
 go_ret
 refine ⟨rfl, ?_⟩;exact Xo
theorem eqSpan_t (x:YY) (w:World) :
 Calls Tryz.prog 46 #[Ye x,Ye x] w λ e w'=>e=.returned (.bool true)/\Below w.heap.size w w':=by
 go_enter Tryz.func46,Tryz.ntmps46
 go_wp2_with (fail)
 refine (eqRatio_t x.low _).mono ?_;rintro e w1 ⟨rfl,hb1⟩;have r1:=Xn hb1;have l0:w.heap.size<w1.heap.size:=Xw hb1;have l1:w.heap.size+1<w1.heap.size:=Xw hb1;go_wp2_with (fail)
 refine (eqRatio_t x.high _).mono ?_;rintro e w2 ⟨rfl,hb2⟩;go_wp2
 go_ret
 refine ⟨rfl, ?_⟩;exact Xo
end Go.Proofs.YtkjimfapbjdafaaGreat
namespace Go.Proofs.YtkjimfapbjdafaaGreat
open Go.RowKit Go.ChangeShapes Go.WideShapes Go.ChangeAt Go.Deep
section
variable {H:Type} {enc:TypeId × Value->H} {P:Program} {w:World} {base:Nat} {spare:Nat->Bool} {held:Bool}
theorem open_int1 {r:Reach} {b0:Nat} {t:TypeId} {v:Value} {d:DataW H} {p:List MemPlace} (he:P.underlying t=some (.int .i64)) (hv:Value.okWide P w r b0 t v) (h:DataW.Trod enc P w base spare held t v d p):∃ a:Int,YC a/\v=.int .i64 a:=by
 obtain ⟨x,rfl,_,_,wx⟩:=open_int he hv h;exact ⟨x,ZU wx,rfl⟩
end
end Go.Proofs.YtkjimfapbjdafaaGreat
