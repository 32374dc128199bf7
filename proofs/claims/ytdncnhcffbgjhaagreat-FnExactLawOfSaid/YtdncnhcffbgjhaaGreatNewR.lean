/-
 A record that changes the fitted region: of the program and of the reference.
 Conditions: the slices hold at most 2^20 elements.
-/
import Derived.Test.YtdncnhcffbgjhaaGreatGrL
import Derived.Test.YtdncnhcffbgjhaaGreatGrXf
import Derived.Test.YtdncnhcffbgjhaaGreatCopy
import Derived.Test.YtdncnhcffbgjhaaGreatGrM
import Derived.Lib.SliceRun
import Derived.Deep.RegionHeld3
import Derived.Deep.DeepMust
import Derived.Deep.DeepCutAuto
namespace Go.Proofs.YtdncnhcffbgjhaaGreat
open Go.RowKit
theorem Has.grown {w w':World} {g:Nat} {vs:List Value} {row:Option Nat} (h:Has w g vs) (hG:w.grownBy w' row) (hne:∀ k,row=some k→g≠k):Has w' g vs:=by
 have hb:=hG.block g h.1 (fun e=>hne g e.symm rfl)
 refine ⟨Nat.lt_of_lt_of_le h.1 hG.size,fun j u hu=>?_⟩
 have h2:=h.2 j u hu
 exact ⟨(World.cell?_of_block (w:=w) hb).trans h2.1,(World.frozen?_of_block (w:=w) hb).trans h2.2⟩
theorem New.own {α:Type} {T sz:Nat} {enc:α→List Value} {base:Nat} {w:World} {v:Value} {xs:List α} (h:New T sz enc w base v xs):∀ k,v.ownBlock=some k→base≤k∧k<w.heap.size:=by
 obtain ⟨A,cap,rfl,hr⟩:=h
 exact fun k e=>hr.lt k e
theorem HasT.neT {w:World} {g g' T T':Nat} {vs vs':List Value} (h:HasT w g T vs) (h':HasT w g' T' vs') (hne:T≠T'):g≠g':=by
 intro e
 subst e
 rw [HasT] at h h'
 rw [h] at h'
 simp at h'
 exact hne h'.2
def newRec (xs:List Record) (err:Int) (x:Record):Bool:=fitOk xs err&&(fitOk (xs++[x]) err && !eqB (fitR xs err) (fitR (xs++[x]) err))
end Go.Proofs.YtdncnhcffbgjhaaGreat
