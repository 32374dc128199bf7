/-
 ShiftSpot of the program and of the reference: one function of mathematics.
-/
import Derived.Deep.RegionHeld3
import Derived.Test.YtkjimfapbjdafaaGreatGrU
import Derived.Lib.SliceRun
import Derived.Test.YtkjimfapbjdafaaGreatGrXf
import Derived.Deep.DeepMust
import Derived.Deep.DeepCutAuto
namespace Go.Proofs.YtkjimfapbjdafaaGreat
open Go.RowKit
def shiftSpot (s:X0) (dx dy:Int):Option X0 :=
 if Yj s=true/\Zc dx (-2000) 2000=true/\Zc dy (-2000) 2000=true then Zq (s.x+dx*s.d) (s.y+dy*s.d) s.d else none
def sh (s:X0) (dx dy:Int):Nat->Option X0
 | 0=>shiftSpot s (-dx) (-dy)
 | 1=>shiftSpot s dx (-dy)
 | 2=>shiftSpot s dx dy
 | _=>shiftSpot s (-dx) dy
theorem getD_el {α:Type} {l:List α} {k:Nat} (h:k<l.length) (d:α):l.getD k d=l[k]:=by rw [List.getD_eq_getElem?_getD,List.getElem?_eq_getElem h,Option.getD_some]
theorem Jk {α:Type} {l:List α} {k:Nat} (h:k<l.length) (d:α):l.getD k d∈l:=by rw [getD_el h];exact List.getElem_mem h
theorem XY.mk0 {α:Type} {T sz:Nat} {enc:α->List Value} (w:World):XY T sz enc (w.alloc (.cells #[] T)) w.heap.size (.slice (some ⟨w.heap.size,0,none⟩) 0 0) ([]:List α) :=
 ⟨_,0,rfl,by simp,.inr ⟨w.heap.size,0,#[],rfl,by simp,by have:=heap_alloc_new w (.cells #[] T);simpa using this,Nat.zero_le _,Nat.zero_le _,by simp,by simp⟩⟩
theorem X5.put {w:World} {g:Nat} {vs:List Value} (h:X5 w g vs) (j:Nat) (hj:j<vs.length) (u:Value):X5 (w.setCell ⟨g,j,none⟩ u) g (vs.set j u):=by
 refine ⟨by simpa [World.setCell] using h.1,λ i v hv=>?_⟩;by_cases e:i=j
 ·subst e;rw [List.getElem?_set_self hj] at hv;cases hv;have h2:=h.2 i _ (List.getElem?_eq_getElem hj);exact ⟨World.cell?_setCell_same' _ _ _ (by rw [h2.1];rfl),(World.frozen?_setCell _ _ _ _).trans h2.2⟩
 ·rw [List.getElem?_set_ne (Ne.symm e)] at hv;have h2:=h.2 i v hv;exact ⟨(World.cell?_setCell_other w _ _ u (λ q=>e (by injection q with _ q2 _;exact q2.symm))).trans h2.1,(World.frozen?_setCell _ _ _ _).trans h2.2⟩
theorem XY.lowC {α:Type} {T sz base:Nat} {enc:α->List Value} {v:Value} {xs:List α} {w:World} (h:XY T sz enc w base v xs) {q:Addr} (hq:q.block<base) (us:List Value):XY T sz enc (w.setCells q.block q.off us) base v xs:=by
 induction us generalizing w q with
 | nil=>exact h
 | cons u r ih=>exact ih (q:=⟨q.block,q.off+1,none⟩) (h.set_ (p:=⟨q.block,q.off,none⟩) hq u) hq
theorem XK.lowC {w:World} {base:Nat} {x:List Half} {a:ZS} (h:XK w base x a) {q:Addr} (hq:q.block<base) (us:List Value):XK (w.setCells q.block q.off us) base x a:=⟨h.halves.lowC hq us⟩
theorem Zn {B:Nat} {a w:World} (h:Below B a w) {g o:Nat} (hg:B<=g) (us:List Value):Below B a (w.setCells g o us):=Za hg us o w h
theorem X5.grown {w w':World} {g:Nat} {vs:List Value} {row:Option Nat} (h:X5 w g vs) (hG:w.grownBy w' row) (hne:∀ k,row=some k->g≠k):X5 w' g vs:=by
 have hb:=hG.block g h.1 (λ e=>hne g e.symm rfl);refine ⟨Nat.lt_of_lt_of_le h.1 hG.size,λ j u hu=>?_⟩;have h2:=h.2 j u hu;exact ⟨(World.cell?_of_block (w:=w) hb).trans h2.1,(World.frozen?_of_block (w:=w) hb).trans h2.2⟩
theorem XY.own {α:Type} {T sz:Nat} {enc:α->List Value} {base:Nat} {w:World} {v:Value} {xs:List α} (h:XY T sz enc w base v xs):∀ k,v.ownBlock=some k->base<=k/\k<w.heap.size:=by
 obtain ⟨A,cap,rfl,hr⟩:=h;exact λ k e=>hr.lt k e
end Go.Proofs.YtkjimfapbjdafaaGreat
