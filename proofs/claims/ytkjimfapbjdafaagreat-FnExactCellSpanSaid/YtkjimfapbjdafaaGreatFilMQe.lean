/-
 The cells of a filled table, row by row and one by one.
 Conditions: none.
-/
import Derived.Test.YtkjimfapbjdafaaGreatCCQe
import Derived.Test.YtkjimfapbjdafaaGreatFilMQc
namespace Go.Proofs.YtkjimfapbjdafaaGreat
open Go.RowKit
def Zu (r:XT) (p:List Half) (t:Jp) (i j:Int):Option YY:=if (Yf r p&&XQ t&&Jb t i j)=true then XO r p (Yi r p) t i j else none
theorem rob_parts2 {r:XT} {p:List Half} (h:Yf r p=true):XW r=true/\Xt p=true:=by
 simp only [Yf,Zo,Bool.and_eq_true] at h;exact ⟨h.1.2.1.1,h.1.2.1.2⟩
theorem cel_no {r:XT} {p:List Half} {t:Jp} {i j:Int} (h:(!(Yf r p) || !(XQ t) || !(Jb t i j))=true):Zu r p t i j=none:=by
 unfold Zu;rw [if_neg];intro q;simp only [Bool.and_eq_true] at q;rw [q.1.1,q.1.2,q.2] at h;cases h
theorem cel_parts {r:XT} {p:List Half} {t:Jp} {i j:Int} (h:(!(Yf r p) || !(XQ t) || !(Jb t i j))=false):Yf r p=true/\XQ t=true/\Jb t i j=true:=by
 cases h1:Yf r p
 ·rw [h1] at h;cases h
 ·cases h2:XQ t
  ·rw [h1,h2] at h;cases h
  ·cases h3:Jb t i j
   ·rw [h1,h2,h3] at h;cases h
   ·exact ⟨rfl,rfl,rfl⟩
theorem cel_yes {r:XT} {p:List Half} {t:Jp} {i j:Int} (h:Yf r p=true/\XQ t=true/\Jb t i j=true):Zu r p t i j=XO r p (Yi r p) t i j:=by
 unfold Zu;rw [if_pos (by rw [h.1,h.2.1,h.2.2];rfl)]
end Go.Proofs.YtkjimfapbjdafaaGreat
