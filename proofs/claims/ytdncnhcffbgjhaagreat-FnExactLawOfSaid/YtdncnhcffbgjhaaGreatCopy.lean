/-
 Copies of slices, of regions and of rooms: of the program and of the reference.
 Conditions: the slices hold at most 2^20 elements.
-/
import Derived.Test.YtdncnhcffbgjhaaGreatGrL
import Derived.Test.YtdncnhcffbgjhaaGreatGrN
import Derived.Lib.SliceRun
namespace Go.Proofs.YtdncnhcffbgjhaaGreat
open Go.RowKit
theorem New.mk0 {α:Type} {T sz:Nat} {enc:α→List Value} (w:World):New T sz enc (w.alloc (.cells #[] T)) w.heap.size (.slice (some ⟨w.heap.size,0,none⟩) 0 0) ([]:List α) :=
 ⟨_,0,rfl,by simp,.inr ⟨w.heap.size,0,#[],rfl,by simp,by have:=heap_alloc_new w (.cells #[] T);simpa using this,Nat.zero_le _,Nat.zero_le _,by simp,by simp⟩⟩
theorem Has.put {w:World} {g:Nat} {vs:List Value} (h:Has w g vs) (j:Nat) (hj:j<vs.length) (u:Value):Has (w.setCell ⟨g,j,none⟩ u) g (vs.set j u):=by
 refine ⟨by simpa [World.setCell] using h.1,fun i v hv=>?_⟩
 by_cases e:i=j
 ·subst e
  rw [List.getElem?_set_self hj] at hv
  cases hv
  have h2:=h.2 i _ (List.getElem?_eq_getElem hj)
  exact ⟨World.cell?_setCell_same' _ _ _ (by rw [h2.1];rfl),(World.frozen?_setCell _ _ _ _).trans h2.2⟩
 ·rw [List.getElem?_set_ne (Ne.symm e)] at hv
  have h2:=h.2 i v hv
  exact ⟨(World.cell?_setCell_other w _ _ u (fun q=>e (by injection q with _ q2 _;exact q2.symm))).trans h2.1,(World.frozen?_setCell _ _ _ _).trans h2.2⟩
/-- Stores into a lower block, cell by cell, as the walk writes them. -/
theorem New.lowC {α:Type} {T sz base:Nat} {enc:α→List Value} {v:Value} {xs:List α} {w:World} (h:New T sz enc w base v xs) {q:Addr} (hq:q.block<base) (us:List Value):New T sz enc (w.setCells q.block q.off us) base v xs:=by
 induction us generalizing w q with
 | nil=>exact h
 | cons u r ih=>exact ih (q:=⟨q.block,q.off+1,none⟩) (h.set_ (p:=⟨q.block,q.off,none⟩) hq u) hq
theorem RegionNew.lowC {w:World} {base:Nat} {x:List Half} {a:SlA} (h:RegionNew w base x a) {q:Addr} (hq:q.block<base) (us:List Value):RegionNew (w.setCells q.block q.off us) base x a:=⟨h.halves.lowC hq us⟩
end Go.Proofs.YtdncnhcffbgjhaaGreat
