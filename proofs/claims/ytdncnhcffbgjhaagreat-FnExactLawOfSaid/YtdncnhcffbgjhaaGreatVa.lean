/-
 Appends to slices of the call's own, as steps of regions.
 Conditions: none.
-/
import Derived.Test.YtdncnhcffbgjhaaGreatGrU
import Derived.Test.YtdncnhcffbgjhaaGreatNewR
import Derived.Test.YtdncnhcffbgjhaaGreatGrZ
namespace Go.Proofs.YtdncnhcffbgjhaaGreat
open Go.RowKit
/-- The block of a slice, as a list. -/
def blkL (A:Option Addr):List Nat:=match A with|some p=>[p.block]|none=>[]
theorem blkL_nin {A:Option Addr} {g:Nat} (h:∀ p,A=some p→p.block≠g):g ∉ blkL A:=by
 cases A with
 | none=>simp [blkL]
 | some p=>simp only [blkL,List.mem_singleton];exact fun e=>h p rfl e.symm
theorem blkL_in {A:Option Addr} {m:Nat} (h:m∈blkL A):∃ p,A=some p∧p.block=m:=by
 cases A with
 | none=>simp [blkL] at h
 | some p=>simp only [blkL,List.mem_singleton] at h;exact ⟨p,rfl,h.symm⟩
theorem Kp.grown {w w':World} {A:Option Addr} {n c:Nat} (hg:w.grownBy w' (Value.slice A n c).ownBlock):Kp (blkL A) w w':=by
 refine ⟨⟨hg.os,hg.tape,hg.output,hg.size,fun k hk=>absurd hk (Nat.not_lt_zero _)⟩,fun g hlt hm=>hg.block g hlt ?_⟩
 cases A with
 | none=>intro e;cases e
 | some p =>
  intro e
  injection e with e
  exact hm (by rw [e];simp [blkL])
theorem Kp.trans2 {M M':List Nat} {a w w':World} (h:Kp M a w) (k:Kp M' w w') (hm:∀ m∈M',m∈M∨a.heap.size≤m):Kp M a w' :=
 ⟨h.base.trans k.base,fun g hg hn=>(k.block g (Nat.lt_of_lt_of_le hg h.size) (fun q=>by rcases hm g q with r|r;exact hn r;omega)).trans (h.block g hg hn)⟩
theorem New.nilN {α:Type} (T sz:Nat) (enc:α→List Value) (w:World) (base:Nat):New T sz enc w base (.slice none ([]:List α).length 0) ([]:List α):=⟨none,0,rfl,World.ownsRow_nil _ _ _ _⟩
theorem pieceC_one (x:Piece):∀ u∈pieceC x,u.oneCell'=true:=by
 intro u hu
 simp only [pieceC,List.mem_cons,List.not_mem_nil,or_false] at hu
 rcases hu with rfl|rfl|rfl|rfl<;>rfl
end Go.Proofs.YtdncnhcffbgjhaaGreat
