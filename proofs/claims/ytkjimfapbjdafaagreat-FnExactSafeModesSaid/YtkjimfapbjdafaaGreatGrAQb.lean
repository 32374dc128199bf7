/-
 Words on memory that the contracts of this claim use: a slice that reads as a list of structs, a slice of the call's own.
 Conditions: none.
-/
import Derived.Test.YtkjimfapbjdafaaGreatRows
import Derived.WalkKit
import Derived.WalkSpells
import Derived.WalkLawsBesides
import Derived.Deep.Draws
import Derived.Lib.Hide
import Derived.Deep.Slices
import Derived.Deep.Fields
import Derived.ChangeSame
import Derived.ArgAppend
import Derived.Test.YtkjimfapbjdafaaGreatGrAQa
import Derived.JoinedOf
namespace Go.Proofs.YtkjimfapbjdafaaGreat
open Go.RowKit
section
variable {α:Type} {sz:Nat} {enc:α->List Value} {w w':World} {A:Option Addr} {xs:List α}
end
section
variable {α:Type} {T sz:Nat} {enc:α->List Value} {w w':World} {v:Value} {xs:List α} {base:Nat}
end
section
variable {α:Type} {T sz:Nat} {enc:α->List Value} {w w':World} {g N k:Nat} {xs:List α}
end
theorem own_filled {α:Type} {T sz:Nat} {enc:α->List Value} (Ym:∀ x,(enc x).length=sz) {w:World} {base cap:Nat} {A:Option Addr} {xs:List α} (h:w.ownsRow base T sz (.slice A xs.length cap) xs.length (xs.flatMap enc))
 (ys:List α) (hl:ys.length=xs.length) (h0:0<xs.length) :
 ∃ g,A=some ⟨g,0,none⟩/\base<=g/\ZA T sz enc w g (cap*sz) ys 0/\∀ w',ZA T sz enc w' g (cap*sz) ys xs.length->XY T sz enc w' base (.slice (some ⟨g,0,none⟩) xs.length cap) ys:=by
 obtain ⟨h1,h2⟩:=h;rcases h2 with ⟨_,h2⟩|⟨g,cap',cur,hv,hg,hh,hcap,hmax,hsize,htake⟩
 ·omega
 ·injection hv with hA _ hc
  subst hc;refine ⟨g,hA,hg,⟨cur,hh,hsize, ?_,λ _ _ h0=>absurd h0 (Nat.not_lt_zero _)⟩,λ w' hf=>?_⟩
  ·rw [hl];exact Nat.mul_le_mul_right _ hcap
  ·rw [<- hl] at hf hcap ⊢;exact hf.newCap Ym hg hcap hmax
section
variable {w w':World} {g:Nat} {vs:List Value}
end
def JI (k:Int) (n:Nat):List ZP:=(List.range n).map λ(i:Nat)=>⟨k+i*2,k+i*2+1⟩
theorem j3_SafeModes:(Rows.fnExactSafeModesRow.recurses == Tryz.prog.recurses 3)=true:=by kernel_rfl
theorem j4_SafeModes:(Rows.fnExactSafeModesRow.named == Tryz.prog.varsNamed 3)=true:=by kernel_rfl
theorem j1_SafeModes:(Rows.fnExactSafeModesRow.inPlace == Tryz.prog.inPlace 3)=true:=by kernel_rfl
theorem j2_SafeModes:(Rows.fnExactSafeModesRow.unfollowed == Tryz.prog.unfollowed 3)=true:=by kernel_rfl
end Go.Proofs.YtkjimfapbjdafaaGreat
