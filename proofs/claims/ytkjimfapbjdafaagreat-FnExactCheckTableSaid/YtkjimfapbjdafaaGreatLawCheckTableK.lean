/-
 What the program says of FnExactCheckTable, by the kernel.
 Conditions: none.
-/
import Derived.JoinedOf
import Derived.Test.YtkjimfapbjdafaaGreatGrUQf
import Derived.Test.YtkjimfapbjdafaaGreatAdmDQc
import Derived.Test.YtkjimfapbjdafaaGreatVdQc
namespace Go.Proofs.YtkjimfapbjdafaaGreat
open Go.RowKit
theorem j3_CheckTable:(Rows.fnExactCheckTableRow.recurses == Tryz.prog.recurses 8)=true:=by kernel_rfl
theorem j4_CheckTable:(Rows.fnExactCheckTableRow.named == Tryz.prog.varsNamed 8)=true:=by kernel_rfl
theorem j1_CheckTable:(Rows.fnExactCheckTableRow.inPlace == Tryz.prog.inPlace 8)=true:=by kernel_rfl
theorem j2_CheckTable:(Rows.fnExactCheckTableRow.unfollowed == Tryz.prog.unfollowed 8)=true:=by kernel_rfl
section
variable {W w w':World} {a:Act} {s T g g':Nat} {z:List Value} {b:Bool} {C:World->List Value->Prop} {k:Option Nat} {v:Value}
end
section
variable {P:Program} {o:Oper} {a:Act} {w:World} {N:Act->World->Prop} {Q:Exit->Act->World->Prop}
end
section
variable {K:Act->World->Prop} {Q:Exit->Act->World->Prop} {a:Act} {w:World} {i k:Nat}
end
theorem wp_quo {P:Program} {o:Oper} {a:Act} {w:World} {N:Act->World->Prop} {Q:Exit->Act->World->Prop} {T T':TypeId} {x y:Operand} {m n:Int} (h:o.op=.binOp .quo T x y T') (ex:a.eval x=.int .i64 m) (ey:a.eval y=.int .i64 n) (h0:n≠0) (hw : -9223372036854775808<=m.tdiv n/\m.tdiv n<=9223372036854775807) (hn:N (a.put o.dst (.int .i64 (m.tdiv n))) w):o.wp P a w N Q:=by
 refine Yc (v:=.int .i64 (m.tdiv n)) h ex ey rfl ?_ hn;show Op.intDiv .quo .i64 m n=_;simp [Op.intDiv,h0,wrp hw]
def Jv (w:YY) (u:YO):Bool:=Xu w&&Xq u&&decide (Xp w.low u<=0)&&decide (Xp u w.high<=0)
section
variable {v:YY} {wish:Int} (h:Xu v=true)
include h
end
theorem wp_rem {P:Program} {o:Oper} {a:Act} {w:World} {N:Act->World->Prop} {Q:Exit->Act->World->Prop} {T T':TypeId} {x y:Operand} {m n:Int} (h:o.op=.binOp .rem T x y T') (ex:a.eval x=.int .i64 m) (ey:a.eval y=.int .i64 n) (h0:n≠0) (_ : -9223372036854775808<=m.tmod n/\m.tmod n<=9223372036854775807) (hn:N (a.put o.dst (.int .i64 (m.tmod n))) w):o.wp P a w N Q:=by
 refine Yc (v:=.int .i64 (m.tmod n)) h ex ey rfl ?_ hn;show Op.intDiv .rem .i64 m n=_;simp [Op.intDiv,h0]
end Go.Proofs.YtkjimfapbjdafaaGreat
