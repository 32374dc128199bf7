/-
 The half planes of a moved region; boxes. No program is named here.
 Conditions: none.
-/
import Derived.Test.YtkjimfapbjdafaaGreatGrW
import Derived.Test.YtkjimfapbjdafaaGreatGrL
namespace Go.Proofs.YtkjimfapbjdafaaGreat
open Go.RowKit
def KW (f:Half→Option Half) (p:List Half):List Half:=p.map fun h=>(f h).getD Xl
def Ko (f:Half→Option Half) (p:List Half):Bool:=p.all fun h=>(f h).isSome
/-- The region of the points of the frame in the half planes to which those of a region are moved. -/
def Jv (f:Half→Option Half) (p:List Half):Bool:=decide (p.length=0)||(Ko f p&&Za (XE (KW f p)))
def movR (f:Half→Option Half) (p:List Half):List Half:=if p.length=0∨Ko f p=false then [] else ZB (XE (KW f p))
theorem mov_void {f:Half→Option Half} {p:List Half} (h:p.length=0):Jv f p=true∧movR f p=[]:=by
 unfold Jv movR
 rw [decide_eq_true h,if_pos (.inl h)]
 exact ⟨rfl,rfl⟩
theorem mov_none {f:Half→Option Half} {p:List Half} {k:Nat} (h:k<p.length) (hn:f p[k]=none):Jv f p=false∧movR f p=[]:=by
 have ha:Ko f p=false:=by
  unfold Ko
  rw [List.all_eq_false]
  exact ⟨p[k],List.getElem_mem h,by rw [hn];decide⟩
 unfold Jv movR
 rw [ha,if_pos (.inr rfl),decide_eq_false (by omega)]
 exact ⟨rfl,rfl⟩
theorem mov_all {f:Half→Option Half} {p:List Half} (h:p.length≠0) (ha:Ko f p=true):Jv f p=Za (XE (KW f p))∧movR f p=ZB (XE (KW f p)):=by
 unfold Jv movR
 rw [ha,decide_eq_false h,if_neg (by intro h2;rcases h2 with h2|h2;exact h h2;cases h2)]
 exact ⟨rfl,rfl⟩
theorem movL_take {f:Half→Option Half} {p:List Half} {k:Nat} {g:Half} (h:k<p.length) (hg:f p[k]=some g):KW f (p.take (k+1))=KW f (p.take k)++[g]:=by
 unfold KW
 rw [YF p k h,List.map_append]
 simp [hg]
theorem movAll_take {f:Half→Option Half} {p:List Half} {k:Nat} {g:Half} (h:k<p.length) (h1:Ko f (p.take k)=true) (hg:f p[k]=some g):Ko f (p.take (k+1))=true:=by
 unfold Ko at h1 ⊢
 rw [YF p k h,List.all_append,h1]
 simp [hg]
theorem movL_ok {f:Half→Option Half} {p:List Half} (hf:∀ h∈p,∀ g,f h=some g→Xr g=true) (ha:Ko f p=true):∀ g∈KW f p,Xr g=true:=by
 intro g hg
 unfold KW at hg
 obtain ⟨h,hh,rfl⟩:=List.mem_map.1 hg
 unfold Ko at ha
 have:=List.all_eq_true.1 ha h hh
 cases e:f h with
 | none=>rw [e] at this;cases this
 | some g=>exact hf h hh g e
theorem movL_len (f:Half→Option Half) (p:List Half):(KW f p).length=p.length:=by unfold KW;rw [List.length_map]
theorem halfOf_ok {a b c:Int} {g:Half} (h:YK a b c=some g):Xr g=true:=by
 unfold YK at h
 split at h
 ·cases h
 split at h
 ·rename_i h2
  cases h
  exact h2
 ·cases h
theorem movR_ok {f:Half→Option Half} {p:List Half} (hf:∀ h∈p,∀ g,f h=some g→Xr g=true):Xm (movR f p)=true:=by
 unfold movR
 split
 ·rfl
 ·rename_i h
  have ha:Ko f p=true:=by
   cases e:Ko f p
   ·exact absurd (.inr e) h
   ·rfl
  unfold ZB
  split
  ·rename_i h2
   unfold Za at h2
   exact regionOk_meet (movL_ok hf ha) (of_decide_eq_true h2)
  ·rfl
/-! ### Eroded -/
theorem eroH_ok {q:List Half} {h g:Half} (e:Ze q h=some g):Xr g=true:=halfOf_ok e
structure EroB (h:Half) (r:XX):Prop where
 x : -250000000000000≤h.a*r.d∧h.a*r.d≤250000000000000
 y : -250000000000000≤h.b*r.d∧h.b*r.d≤250000000000000
 c : -500000000000000000≤h.c*r.d∧h.c*r.d≤500000000000000000
 n : -500000000000000000≤r.n∧r.n≤500000000000000000
 d:1≤r.d∧r.d≤5000000000
theorem eroB {h:Half} {q:List Half} (hh:Xr h=true) (hq:Xm q=true) (hne:q≠[]):EroB h (KP q h.a h.b):=by
 obtain ⟨a1,a2,a3,_⟩:=Zn.1 hh
 have R:=supR hq hne (a:=h.a) (b:=h.b) ⟨by omega,by omega⟩ ⟨by omega,by omega⟩
 have d1:=R.d
 have p:=mulB (a:=h.a) (b:=(KP q h.a h.b).d) (A:=50000) (B:=5000000000) ⟨by omega,by omega⟩ ⟨by omega,by omega⟩
 have q2:=mulB (a:=h.b) (b:=(KP q h.a h.b).d) (A:=50000) (B:=5000000000) ⟨by omega,by omega⟩ ⟨by omega,by omega⟩
 have r:=mulB (a:=h.c) (b:=(KP q h.a h.b).d) (A:=100000000) (B:=5000000000) ⟨by omega,by omega⟩ ⟨by omega,by omega⟩
 exact ⟨⟨by omega,by omega⟩,⟨by omega,by omega⟩,⟨by omega,by omega⟩,R.n,R.d⟩
/-! ### Boxes -/
def boxHs (x y:Int):List Half:=[⟨1,0,x⟩,⟨0,1,y⟩,⟨-1,0,x⟩,⟨0,-1,y⟩]
def boxR (x y:Int):List Half:=XL (XE (boxHs x y))
end Go.Proofs.YtkjimfapbjdafaaGreat
