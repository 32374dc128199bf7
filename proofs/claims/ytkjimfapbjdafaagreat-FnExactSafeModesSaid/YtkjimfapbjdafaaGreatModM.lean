/-
 The modes of a plant in a state: which of them admit an input, and the weakest one; in plain words.
 Conditions: none.
-/
import Derived.Test.YtkjimfapbjdafaaGreatWhoM
import Derived.Test.YtkjimfapbjdafaaGreatGrV
import Derived.Test.YtkjimfapbjdafaaGreatGrXe
namespace Go.Proofs.YtkjimfapbjdafaaGreat
open Go.RowKit
def Xw:ZJ:=⟨0,0⟩
def ZG (r:XN) (m:ZJ):XN:=setR r m.low m.high
theorem modes_room {r:XN} {l:List ZJ} (h:YI r l=true):XU r=true∧1≤l.length∧l.length≤4:=by
 simp only [YI,Bool.and_eq_true] at h
 have:=YT.1 h.1.1
 exact ⟨h.2,by omega,by omega⟩
theorem inM_in {r:XN} {m:ZJ} (h:Za r) (hm:m.In):Za (ZG r m):=⟨h.map,h.div,h.bx,h.by_,hm.1,hm.2,h.noise,h.limits⟩
/-- The span of the inputs that mode k admits. -/
def modA (r:XN) (l:List ZJ) (p:List Half) (s:XJ) (k:Nat):Option YX:=XO (ZG r (l.getD k Xw)) p s
def sfK (r:XN) (l:List ZJ) (p:List Half) (s:XJ):Nat→List Int
 | 0=>[]
 | k+1=>if (modA r l p s k).isSome=true then sfK r l p s k++[(k:Int)] else sfK r l p s k
def Ji (r:XN) (l:List ZJ) (p:List Half) (s:XJ):List Int:=if YI r l=true then sfK r l p s l.length else []
theorem sfK_yes {r:XN} {l:List ZJ} {p:List Half} {s:XJ} {k:Nat} (h:(modA r l p s k).isSome=true):sfK r l p s (k+1)=sfK r l p s k++[(k:Int)]:=by rw [sfK,if_pos h]
theorem sfK_no {r:XN} {l:List ZJ} {p:List Half} {s:XJ} {k:Nat} (h:(modA r l p s k).isSome=false):sfK r l p s (k+1)=sfK r l p s k:=by rw [sfK,if_neg (by rw [h];simp)]
theorem sfK_len (r:XN) (l:List ZJ) (p:List Half) (s:XJ):∀ k,(sfK r l p s k).length≤k
 | 0=>Nat.le_refl _
 | k+1=>by
  have:=sfK_len r l p s k
  rw [sfK]
  split
  ·rw [List.length_append];simp only [List.length_cons,List.length_nil];omega
  ·omega
theorem sfR_le (r:XN) (l:List ZJ) (p:List Half) (s:XJ):(Ji r l p s).length≤1048576:=by
 unfold Ji
 split
 ·rename_i h
  have:=sfK_len r l p s l.length
  have:=(modes_room h).2.2
  omega
 ·exact Nat.zero_le _
def wkN (r:XN) (l:List ZJ) (p:List Half) (s:XJ) (k:Nat):Int:=whoN ((modA r l p s k).getD Xd)
def wkS (r:XN) (l:List ZJ) (p:List Half) (s:XJ):Nat→Int × Int
 | 0=>(-1,0)
 | k+1=>if ((wkS r l p s k).1<0∨wkN r l p s k<(wkS r l p s k).2) then ((k:Int),wkN r l p s k) else wkS r l p s k
def wkAll (r:XN) (l:List ZJ) (p:List Half) (s:XJ) (k:Nat):Bool:=(List.range k).all fun i=>(modA r l p s i).isSome
def wkR (r:XN) (l:List ZJ) (p:List Half) (s:XJ):Int:=if YI r l=true then (match (List.range l.length).find? (fun i=>!(modA r l p s i).isSome) with|some i=>(i:Int)|none=>(wkS r l p s l.length).1) else -1
theorem wkAll_next {r:XN} {l:List ZJ} {p:List Half} {s:XJ} {k:Nat} (h:wkAll r l p s k=true) (h2:(modA r l p s k).isSome=true):wkAll r l p s (k+1)=true:=by
 unfold wkAll at h ⊢
 rw [List.range_succ,List.all_append,h]
 simp [h2]
theorem wk_stop {r:XN} {l:List ZJ} {p:List Half} {s:XJ} {k:Nat} (hm:YI r l=true) (hk:k<l.length) (h:wkAll r l p s k=true) (h2:(modA r l p s k).isSome=false):wkR r l p s=(k:Int):=by
 unfold wkR
 rw [if_pos hm]
 have:(List.range l.length).find? (fun i=>!(modA r l p s i).isSome)=some k:=by
  rw [List.find?_range_eq_some]
  refine ⟨by rw [h2];rfl,List.mem_range.2 hk,fun j hj=>?_⟩
  unfold wkAll at h
  rw [List.all_eq_true] at h
  rw [h j (List.mem_range.2 hj)];rfl
 rw [this]
theorem wk_end {r:XN} {l:List ZJ} {p:List Half} {s:XJ} (hm:YI r l=true) (h:wkAll r l p s l.length=true):wkR r l p s=(wkS r l p s l.length).1:=by
 unfold wkR
 rw [if_pos hm]
 have:(List.range l.length).find? (fun i=>!(modA r l p s i).isSome)=none:=by
  rw [List.find?_eq_none]
  unfold wkAll at h
  rw [List.all_eq_true] at h
  intro i hi
  rw [h i hi];simp
 rw [this]
theorem wk_no {r:XN} {l:List ZJ} {p:List Half} {s:XJ} (hm:YI r l=false):wkR r l p s = -1:=by
 unfold wkR
 rw [if_neg (by rw [hm];simp)]
theorem sf_no {r:XN} {l:List ZJ} {p:List Half} {s:XJ} (hm:YI r l=false):Ji r l p s=[]:=by
 unfold Ji
 rw [if_neg (by rw [hm];simp)]
theorem sf_yes {r:XN} {l:List ZJ} {p:List Half} {s:XJ} (hm:YI r l=true):Ji r l p s=sfK r l p s l.length:=by
 unfold Ji
 rw [if_pos hm]
theorem wkS_upd {r:XN} {l:List ZJ} {p:List Half} {s:XJ} {k:Nat} (h:(wkS r l p s k).1<0∨wkN r l p s k<(wkS r l p s k).2):wkS r l p s (k+1)=((k:Int),wkN r l p s k):=by rw [wkS,if_pos h]
theorem wkS_keep {r:XN} {l:List ZJ} {p:List Half} {s:XJ} {k:Nat} (h1:¬ (wkS r l p s k).1<0) (h2:¬ wkN r l p s k<(wkS r l p s k).2):wkS r l p s (k+1)=wkS r l p s k:=by rw [wkS,if_neg (by omega)]
end Go.Proofs.YtkjimfapbjdafaaGreat
