/-
 The modes of a plant in a state: which of them admit an input, and the weakest one; in plain words.
 Conditions: none.
-/
import Derived.Test.YtkjimfapbjdafaaGreatNextM
import Derived.Test.YtkjimfapbjdafaaGreatModMQa
namespace Go.Proofs.YtkjimfapbjdafaaGreat
open Go.RowKit
def wkN (r:XT) (l:List ZP) (p:List Half) (s:X0) (k:Nat):Int:=whoN ((modA r l p s k).getD Xd)
def wkS (r:XT) (l:List ZP) (p:List Half) (s:X0):Nat->Int × Int
 | 0=>(-1,0)
 | k+1=>if ((wkS r l p s k).1<0∨wkN r l p s k<(wkS r l p s k).2) then ((k:Int),wkN r l p s k) else wkS r l p s k
def wkAll (r:XT) (l:List ZP) (p:List Half) (s:X0) (k:Nat):Bool:=(List.range k).all λ i=>(modA r l p s i).isSome
def wkR (r:XT) (l:List ZP) (p:List Half) (s:X0):Int:=if YJ r l=true then (match (List.range l.length).find? (λ i=>!(modA r l p s i).isSome) with|some i=>(i:Int)|none=>(wkS r l p s l.length).1) else -1
theorem wkAll_next {r:XT} {l:List ZP} {p:List Half} {s:X0} {k:Nat} (h:wkAll r l p s k=true) (h2:(modA r l p s k).isSome=true):wkAll r l p s (k+1)=true:=by
 unfold wkAll at h ⊢;rw [List.range_succ,List.all_append,h];simp [h2]
theorem wk_stop {r:XT} {l:List ZP} {p:List Half} {s:X0} {k:Nat} (hm:YJ r l=true) (hk:k<l.length) (h:wkAll r l p s k=true) (h2:(modA r l p s k).isSome=false):wkR r l p s=(k:Int):=by
 unfold wkR;rw [if_pos hm];have:(List.range l.length).find? (λ i=>!(modA r l p s i).isSome)=some k:=by
  rw [List.find?_range_eq_some];refine ⟨by rw [h2];rfl,List.mem_range.2 hk,λ j hj=>?_⟩;unfold wkAll at h;rw [List.all_eq_true] at h;rw [h j (List.mem_range.2 hj)];rfl
 rw [this]
theorem wk_end {r:XT} {l:List ZP} {p:List Half} {s:X0} (hm:YJ r l=true) (h:wkAll r l p s l.length=true):wkR r l p s=(wkS r l p s l.length).1:=by
 unfold wkR;rw [if_pos hm];have:(List.range l.length).find? (λ i=>!(modA r l p s i).isSome)=none:=by
  rw [List.find?_eq_none];unfold wkAll at h;rw [List.all_eq_true] at h;intro i hi;rw [h i hi];simp
 rw [this]
theorem wk_no {r:XT} {l:List ZP} {p:List Half} {s:X0} (hm:YJ r l=false):wkR r l p s = -1:=by
 unfold wkR;rw [if_neg (by rw [hm];simp)]
theorem wkS_upd {r:XT} {l:List ZP} {p:List Half} {s:X0} {k:Nat} (h:(wkS r l p s k).1<0∨wkN r l p s k<(wkS r l p s k).2):wkS r l p s (k+1)=((k:Int),wkN r l p s k):=by rw [wkS,if_pos h]
theorem wkS_keep {r:XT} {l:List ZP} {p:List Half} {s:X0} {k:Nat} (h1:¬ (wkS r l p s k).1<0) (h2:¬ wkN r l p s k<(wkS r l p s k).2):wkS r l p s (k+1)=wkS r l p s k:=by rw [wkS,if_neg (by omega)]
end Go.Proofs.YtkjimfapbjdafaaGreat
