/-
 What the functions that mark modes, pieces and laws return: they change the marked slices' own blocks alone.
 Conditions: the slices hold at most 2^20 elements.
-/
import Derived.Test.YtkjimfapbjdafaaGreatGrAQa
namespace Go.Proofs.YtkjimfapbjdafaaGreat
open Go.RowKit
theorem XI.neL {α:Type} {T sz base n c g T':Nat} {enc:α->List Value} {w:World} {A:Option Addr} {xs:List α} {vs:List Value} (h:XI T sz enc w base (.slice A n c) xs) (hg:Xy w g T' vs) (hT:T≠T'):∀ a∈[(⟨A,c⟩:ZY)],∀ p,a.A=some p->p.block≠g:=all1 (h.typ hg hT)
end Go.Proofs.YtkjimfapbjdafaaGreat
