/-
 The inputs that a region admits. No program is named here.
 Conditions: none.
-/
import Derived.Test.YtkjimfapbjdafaaGreatCopyQa
import Derived.RegionTactic
import Derived.ChangeAlike
import Derived.Deep.DeepCutAuto
import Derived.Deep.RegionHeld3
import Derived.Test.YtkjimfapbjdafaaGreatV1
namespace Go.Proofs.YtkjimfapbjdafaaGreat
open Go.RowKit
def XN (r:XT) (p:List Half) (s:X0):Option YY:=if Yf r p=true/\Yj s=true then XC r (Yi r p) s else none
def blkL (A:Option Addr):List Nat:=match A with|some p=>[p.block]|none=>[]
theorem blkL_in {A:Option Addr} {m:Nat} (h:m∈blkL A):∃ p,A=some p/\p.block=m:=by
 cases A with
 | none=>simp [blkL] at h
 | some p=>simp only [blkL,List.mem_singleton] at h;exact ⟨p,rfl,h.symm⟩
theorem Kp.grown {w w':World} {A:Option Addr} {n c:Nat} (hg:w.grownBy w' (Value.slice A n c).ownBlock):Kp (blkL A) w w':=by
 refine ⟨⟨hg.os,hg.tape,hg.output,hg.size,λ k hk=>absurd hk (Nat.not_lt_zero _)⟩,λ g hlt hm=>hg.block g hlt ?_⟩;cases A with
 | none=>intro e;cases e
 | some p =>
  intro e;injection e with e
  exact hm (by rw [e];simp [blkL])
theorem X1.drew {w:World} {base:Nat} {x:XT} {a:Yq} (h:X1 w base x a):X1 w.drew base x a:=⟨h.map,⟨h.noise.halves⟩,⟨h.limits.halves⟩,h.apart⟩
end Go.Proofs.YtkjimfapbjdafaaGreat
