/-
 The corners of a cell of a table: of the program and of the reference.
 Conditions: the table's slice holds at most 2^20 elements.
-/
import Derived.Deep.QuietTactic
import Derived.BigQuiet
import Derived.Test.YtkjimfapbjdafaaGreatV1
namespace Go.Proofs.YtkjimfapbjdafaaGreat
open Go.RowKit
section
variable {W w w':World} {a:Act} {s T g g':Nat} {z:List Value} {b:Bool} {C:World->List Value->Prop} {k:Option Nat} {v:Value}
end
section
variable {P:Program} {o:Oper} {a:Act} {w:World} {N:Act->World->Prop} {Q:Exit->Act->World->Prop}
end
section
variable {K:Act->World->Prop} {Q:Exit->Act->World->Prop} {a:Act} {w:World} {i k:Nat}
end
theorem beq_t {x y:Int} (h:(x == y)=true):x=y:=by simpa using h
theorem beq_f {x y:Int} (h:(x == y)=false):¬ x=y:=by simpa using h
theorem oMCX {P:Program} {a0:Act} {w0:World} {D M ss:List Nat} {dl:List (List Nat)} {vs:List (Option Value)} {X:(Nat->Bool)->Act->World->Prop} {o:Oper} {i:Nat} {v:Value} (h:o.op=.move (.const v)) (hv:ZW vs[i]? v) (hx:∀ L a w v,X L a w->X (ZB L i) (a.put o.dst v) w) :
 ∀ (Lk:Nat->Bool) (a:Act) (w:World),OX a0 w0 D M ss dl vs X i Lk a w->∀ (N:Act->World->Prop) (Q:Exit->Act->World->Prop),(∀ v w',Kp M w0 w'->ZW vs[i]? v->X (ZB Lk i) (a.put o.dst v) w'->N (a.put o.dst v) w')->o.wp P a w N Q :=
 λ _ _ _ H _ _ hN=>XG h (rfl) (hN _ _ H.k hv (hx _ _ _ _ H.x))
end Go.Proofs.YtkjimfapbjdafaaGreat
