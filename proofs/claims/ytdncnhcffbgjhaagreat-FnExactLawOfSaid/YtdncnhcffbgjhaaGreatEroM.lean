/-
 The half planes of a moved region; boxes. No program is named here.
 Conditions: none.
-/
import Derived.Test.YtdncnhcffbgjhaaGreatGrW
import Derived.Test.YtdncnhcffbgjhaaGreatGrL
namespace Go.Proofs.YtdncnhcffbgjhaaGreat
open Go.RowKit
def movL (f:Half→Option Half) (p:List Half):List Half:=p.map fun h=>(f h).getD half0
def movAll (f:Half→Option Half) (p:List Half):Bool:=p.all fun h=>(f h).isSome
/-- The region of the points of the frame in the half planes to which those of a region are moved. -/
def movOk (f:Half→Option Half) (p:List Half):Bool:=decide (p.length=0)||(movAll f p&&meetOk (meetL (movL f p)))
def movR (f:Half→Option Half) (p:List Half):List Half:=if p.length=0∨movAll f p=false then [] else meetR (meetL (movL f p))
theorem mov_void {f:Half→Option Half} {p:List Half} (h:p.length=0):movOk f p=true∧movR f p=[]:=by
 unfold movOk movR
 rw [decide_eq_true h,if_pos (.inl h)]
 exact ⟨rfl,rfl⟩
theorem mov_none {f:Half→Option Half} {p:List Half} {k:Nat} (h:k<p.length) (hn:f p[k]=none):movOk f p=false∧movR f p=[]:=by
 have ha:movAll f p=false:=by
  unfold movAll
  rw [List.all_eq_false]
  exact ⟨p[k],List.getElem_mem h,by rw [hn];decide⟩
 unfold movOk movR
 rw [ha,if_pos (.inr rfl),decide_eq_false (by omega)]
 exact ⟨rfl,rfl⟩
theorem mov_all {f:Half→Option Half} {p:List Half} (h:p.length≠0) (ha:movAll f p=true):movOk f p=meetOk (meetL (movL f p))∧movR f p=meetR (meetL (movL f p)):=by
 unfold movOk movR
 rw [ha,decide_eq_false h,if_neg (by intro h2;rcases h2 with h2|h2;exact h h2;cases h2)]
 exact ⟨rfl,rfl⟩
theorem movL_take {f:Half→Option Half} {p:List Half} {k:Nat} {g:Half} (h:k<p.length) (hg:f p[k]=some g):movL f (p.take (k+1))=movL f (p.take k)++[g]:=by
 unfold movL
 rw [take_succ' p k h,List.map_append]
 simp [hg]
theorem movAll_take {f:Half→Option Half} {p:List Half} {k:Nat} {g:Half} (h:k<p.length) (h1:movAll f (p.take k)=true) (hg:f p[k]=some g):movAll f (p.take (k+1))=true:=by
 unfold movAll at h1 ⊢
 rw [take_succ' p k h,List.all_append,h1]
 simp [hg]
theorem movL_ok {f:Half→Option Half} {p:List Half} (hf:∀ h∈p,∀ g,f h=some g→halfOk g=true) (ha:movAll f p=true):∀ g∈movL f p,halfOk g=true:=by
 intro g hg
 unfold movL at hg
 obtain ⟨h,hh,rfl⟩:=List.mem_map.1 hg
 unfold movAll at ha
 have:=List.all_eq_true.1 ha h hh
 cases e:f h with
 | none=>rw [e] at this;cases this
 | some g=>exact hf h hh g e
theorem movL_len (f:Half→Option Half) (p:List Half):(movL f p).length=p.length:=by unfold movL;rw [List.length_map]
theorem halfOf_ok {a b c:Int} {g:Half} (h:halfOf a b c=some g):halfOk g=true:=by
 unfold halfOf at h
 split at h
 ·cases h
 split at h
 ·rename_i h2
  cases h
  exact h2
 ·cases h
theorem movR_ok {f:Half→Option Half} {p:List Half} (hf:∀ h∈p,∀ g,f h=some g→halfOk g=true):regionOk (movR f p)=true:=by
 unfold movR
 split
 ·rfl
 ·rename_i h
  have ha:movAll f p=true:=by
   cases e:movAll f p
   ·exact absurd (.inr e) h
   ·rfl
  unfold meetR
  split
  ·rename_i h2
   unfold meetOk at h2
   exact regionOk_meet (movL_ok hf ha) (of_decide_eq_true h2)
  ·rfl
/-! ### Eroded -/
theorem eroH_ok {q:List Half} {h g:Half} (e:eroH q h=some g):halfOk g=true:=halfOf_ok e
structure EroB (h:Half) (r:Ratio):Prop where
 x : -250000000000000≤h.a*r.d∧h.a*r.d≤250000000000000
 y : -250000000000000≤h.b*r.d∧h.b*r.d≤250000000000000
 c : -500000000000000000≤h.c*r.d∧h.c*r.d≤500000000000000000
 n : -500000000000000000≤r.n∧r.n≤500000000000000000
 d:1≤r.d∧r.d≤5000000000
theorem eroB {h:Half} {q:List Half} (hh:halfOk h=true) (hq:regionOk q=true) (hne:q≠[]):EroB h (sup q h.a h.b):=by
 obtain ⟨a1,a2,a3,_⟩:=halfOk_iff.1 hh
 have R:=supR hq hne (a:=h.a) (b:=h.b) ⟨by omega,by omega⟩ ⟨by omega,by omega⟩
 have d1:=R.d
 have p:=mulB (a:=h.a) (b:=(sup q h.a h.b).d) (A:=50000) (B:=5000000000) ⟨by omega,by omega⟩ ⟨by omega,by omega⟩
 have q2:=mulB (a:=h.b) (b:=(sup q h.a h.b).d) (A:=50000) (B:=5000000000) ⟨by omega,by omega⟩ ⟨by omega,by omega⟩
 have r:=mulB (a:=h.c) (b:=(sup q h.a h.b).d) (A:=100000000) (B:=5000000000) ⟨by omega,by omega⟩ ⟨by omega,by omega⟩
 exact ⟨⟨by omega,by omega⟩,⟨by omega,by omega⟩,⟨by omega,by omega⟩,R.n,R.d⟩
/-! ### Boxes -/
def boxHs (x y:Int):List Half:=[⟨1,0,x⟩,⟨0,1,y⟩,⟨-1,0,x⟩,⟨0,-1,y⟩]
def boxR (x y:Int):List Half:=meetI (meetL (boxHs x y))
end Go.Proofs.YtdncnhcffbgjhaaGreat
