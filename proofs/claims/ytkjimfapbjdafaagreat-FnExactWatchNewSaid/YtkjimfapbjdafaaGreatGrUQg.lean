/-
 One rule for regions, in the text's order or in an order that is drawn: one obligation for each operation.
 Conditions: none.
-/
import Derived.Test.YtkjimfapbjdafaaGreatGrU
namespace Go.Proofs.YtkjimfapbjdafaaGreat
open Go.RowKit
section
variable {W w w':World} {a:Act} {s T g g':Nat} {z:List Value} {b:Bool} {C:World->List Value->Prop} {k:Option Nat} {v:Value}
end
section
variable {P:Program} {o:Oper} {a:Act} {w:World} {N:Act->World->Prop} {Q:Exit->Act->World->Prop}
end
section
variable {K:Act->World->Prop} {Q:Exit->Act->World->Prop} {a:Act} {w:World} {i k:Nat}
end
theorem oMCX {P:Program} {a0:Act} {w0:World} {D M ss:List Nat} {dl:List (List Nat)} {vs:List (Option Value)} {X:(Nat->Bool)->Act->World->Prop} {o:Oper} {i:Nat} {v:Value} (h:o.op=.move (.const v)) (hv:KW vs[i]? v) (hx:∀ L a w v,X L a w->X (Y5 L i) (a.put o.dst v) w) :
 ∀ (Lk:Nat->Bool) (a:Act) (w:World),OX a0 w0 D M ss dl vs X i Lk a w->∀ (N:Act->World->Prop) (Q:Exit->Act->World->Prop),(∀ v w',Kp M w0 w'->KW vs[i]? v->X (Y5 Lk i) (a.put o.dst v) w'->N (a.put o.dst v) w')->o.wp P a w N Q :=
 λ _ _ _ H _ _ hN=>Xv h (rfl) (hN _ _ H.k hv (hx _ _ _ _ H.x))
end Go.Proofs.YtkjimfapbjdafaaGreat
