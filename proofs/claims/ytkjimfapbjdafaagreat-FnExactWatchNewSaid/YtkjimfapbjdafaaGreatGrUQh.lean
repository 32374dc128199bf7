/-
 One rule for regions, in the text's order or in an order that is drawn: one obligation for each operation.
 Conditions: none.
-/
import Derived.Test.YtkjimfapbjdafaaGreatGrV
namespace Go.Proofs.YtkjimfapbjdafaaGreat
open Go.RowKit
section
variable {W w w':World} {a:Act} {s T g g':Nat} {z:List Value} {b:Bool} {C:World->List Value->Prop} {k:Option Nat} {v:Value}
end
section
variable {P:Program} {o:Oper} {a:Act} {w:World} {N:Act->World->Prop} {Q:Exit->Act->World->Prop}
end
section
variable {K:Act->World->Prop} {Q:Exit->Act->World->Prop} {a:Act} {w:World} {i k:Nat}
end
theorem and_t1 {x y:Bool} (h:(x&&y)=true):x=true:=by cases x<;>simp_all
theorem and_t2 {x y:Bool} (h:(x&&y)=true):y=true:=by cases x<;>simp_all
theorem XI.lit {α:Type} {T sz g base:Nat} {enc:α->List Value} {w:World} {xs:List α} (YT:∀ x,(enc x).length=sz) (h:Xy w g T (xs.flatMap enc)) (hb:base<=g) (hm:xs.length<=1000000):XI T sz enc w base (.slice (some ⟨g,0,none⟩) xs.length xs.length) xs:=by
 have hl:(xs.flatMap enc).length=xs.length*sz:=by
  clear h hb hm;induction xs with
  | nil=>simp
  | cons x t ih=>rw [List.flatMap_cons,List.length_append,ih,YT,List.length_cons,Nat.add_mul,Nat.one_mul,Nat.add_comm]
 refine ⟨_,_,rfl,hl,.inr ⟨g,xs.length,(xs.flatMap enc).toArray,rfl,hb,h,Nat.le_refl _,Nat.le_trans hm (by decide),by simpa using hl, ?_⟩⟩;exact List.take_of_length_le (by show (xs.flatMap enc).length<=_;omega)
end Go.Proofs.YtkjimfapbjdafaaGreat
