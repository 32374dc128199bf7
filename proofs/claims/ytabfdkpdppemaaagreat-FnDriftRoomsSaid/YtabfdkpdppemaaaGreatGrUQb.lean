/-
 One rule for regions, in the text's order or in an order that is drawn: one obligation for each operation.
 Conditions: none.
-/
import Derived.JoinedOf
import Derived.Test.YtabfdkpdppemaaaGreatGrV
import Derived.Test.YtabfdkpdppemaaaGreatGrXeQb
namespace Go.Proofs.YtabfdkpdppemaaaGreat
open Go.RowKit
section
variable {W w w':World} {a:Act} {s T g g':Nat} {z:List Value} {b:Bool} {C:World->List Value->Prop} {k:Option Nat} {v:Value}
end
section
variable {P:Program} {o:Oper} {a:Act} {w:World} {N:Act->World->Prop} {Q:Exit->Act->World->Prop}
end
section
variable {K:Act->World->Prop} {Q:Exit->Act->World->Prop} {a:Act} {w:World} {i k:Nat}
end
theorem and_t1 {x y:Bool} (h:(x&&y)=true):x=true:=by cases x<;>simp_all
theorem and_t2 {x y:Bool} (h:(x&&y)=true):y=true:=by cases x<;>simp_all
theorem j1_FnDriftRooms:(Rows.fnDriftRoomsRow.inPlace == Tryz.prog.inPlace 6)=true:=by kernel_rfl
theorem j2_FnDriftRooms:(Rows.fnDriftRoomsRow.unfollowed == Tryz.prog.unfollowed 6)=true:=by kernel_rfl
theorem j3_FnDriftRooms:(Rows.fnDriftRoomsRow.recurses == Tryz.prog.recurses 6)=true:=by kernel_rfl
theorem j4_FnDriftRooms:(Rows.fnDriftRoomsRow.named == Tryz.prog.varsNamed 6)=true:=by kernel_rfl
theorem div_bd {n d:Int} (h1 : -9223372036854775807<=n) (h2:n<=9223372036854775807) (hd:0<d) : -9223372036854775807<=n / d/\n / d<=9223372036854775807:=floor_le hd 9223372036854775807 (by omega) (by omega) (by omega)
section
variable {v:YT} {wish:Int} (h:XQ v=true)
include h
end
end Go.Proofs.YtabfdkpdppemaaaGreat
