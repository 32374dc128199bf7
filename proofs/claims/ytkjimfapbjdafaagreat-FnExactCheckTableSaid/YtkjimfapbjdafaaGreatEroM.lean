/-
 The half planes of a moved region; boxes. No program is named here.
 Conditions: none.
-/
import Derived.Test.YtkjimfapbjdafaaGreatGrW
namespace Go.Proofs.YtkjimfapbjdafaaGreat
open Go.RowKit
def J7 (f:Half->Option Half) (p:List Half):List Half:=p.map λ h=>(f h).getD Xl
def Ju (f:Half->Option Half) (p:List Half):Bool:=p.all λ h=>(f h).isSome
def movOk (f:Half->Option Half) (p:List Half):Bool:=decide (p.length=0)||(Ju f p&&Z3 (X7 (J7 f p)))
def movR (f:Half->Option Half) (p:List Half):List Half:=if p.length=0∨Ju f p=false then [] else Ko (X7 (J7 f p))
theorem mov_void {f:Half->Option Half} {p:List Half} (h:p.length=0):movOk f p=true/\movR f p=[]:=by
 unfold movOk movR;rw [decide_eq_true h,if_pos (.inl h)];exact ⟨rfl,rfl⟩
theorem mov_none {f:Half->Option Half} {p:List Half} {k:Nat} (h:k<p.length) (hn:f p[k]=none):movOk f p=false/\movR f p=[]:=by
 have ha:Ju f p=false:=by
  unfold Ju;rw [List.all_eq_false];exact ⟨p[k],List.getElem_mem h,by rw [hn];decide⟩
 unfold movOk movR;rw [ha,if_pos (.inr rfl),decide_eq_false (by omega)];exact ⟨rfl,rfl⟩
theorem mov_all {f:Half->Option Half} {p:List Half} (h:p.length≠0) (ha:Ju f p=true):movOk f p=Z3 (X7 (J7 f p))/\movR f p=Ko (X7 (J7 f p)):=by
 unfold movOk movR;rw [ha,decide_eq_false h,if_neg (by intro h2;rcases h2 with h2|h2;exact h h2;cases h2)];exact ⟨rfl,rfl⟩
theorem movL_take {f:Half->Option Half} {p:List Half} {k:Nat} {g:Half} (h:k<p.length) (hg:f p[k]=some g):J7 f (p.take (k+1))=J7 f (p.take k)++[g]:=by
 unfold J7;rw [Y7 p k h,List.map_append];simp [hg]
theorem movAll_take {f:Half->Option Half} {p:List Half} {k:Nat} {g:Half} (h:k<p.length) (h1:Ju f (p.take k)=true) (hg:f p[k]=some g):Ju f (p.take (k+1))=true:=by
 unfold Ju at h1 ⊢;rw [Y7 p k h,List.all_append,h1];simp [hg]
theorem movL_ok {f:Half->Option Half} {p:List Half} (hf:∀ h∈p,∀ g,f h=some g->XF g=true) (ha:Ju f p=true):∀ g∈J7 f p,XF g=true:=by
 intro g hg;unfold J7 at hg;obtain ⟨h,hh,rfl⟩:=List.mem_map.1 hg;unfold Ju at ha;have:=List.all_eq_true.1 ha h hh;cases e:f h with
 | none=>rw [e] at this;cases this
 | some g=>exact hf h hh g e
theorem movL_len (f:Half->Option Half) (p:List Half):(J7 f p).length=p.length:=by unfold J7;rw [List.length_map]
theorem halfOf_ok {a b c:Int} {g:Half} (h:Zs a b c=some g):XF g=true:=by
 unfold Zs at h;split at h
 ·cases h
 split at h
 ·rename_i h2
  cases h;exact h2
 ·cases h
theorem movR_ok {f:Half->Option Half} {p:List Half} (hf:∀ h∈p,∀ g,f h=some g->XF g=true):Xt (movR f p)=true:=by
 unfold movR;split
 ·rfl
 ·rename_i h
  have ha:Ju f p=true:=by
   cases e:Ju f p
   ·exact absurd (.inr e) h
   ·rfl
  unfold Ko;split
  ·rename_i h2
   unfold Z3 at h2;exact regionOk_meet (movL_ok hf ha) (of_decide_eq_true h2)
  ·rfl
theorem eroH_ok {q:List Half} {h g:Half} (e:Z6 q h=some g):XF g=true:=halfOf_ok e
structure EroB (h:Half) (r:YO):Prop where
 x : -250000000000000<=h.a*r.d/\h.a*r.d<=250000000000000
 y : -250000000000000<=h.b*r.d/\h.b*r.d<=250000000000000
 c : -500000000000000000<=h.c*r.d/\h.c*r.d<=500000000000000000
 n : -500000000000000000<=r.n/\r.n<=500000000000000000
 d:1<=r.d/\r.d<=5000000000
theorem eroB {h:Half} {q:List Half} (hh:XF h=true) (hq:Xt q=true) (hne:q≠[]):EroB h (sup q h.a h.b):=by
 obtain ⟨a1,a2,a3,_⟩:=ZV.1 hh;have R:=supR hq hne (a:=h.a) (b:=h.b) ⟨by omega,by omega⟩ ⟨by omega,by omega⟩;have d1:=R.d;have p:=mulB (a:=h.a) (b:=(sup q h.a h.b).d) (A:=50000) (B:=5000000000) ⟨by omega,by omega⟩ ⟨by omega,by omega⟩;have q2:=mulB (a:=h.b) (b:=(sup q h.a h.b).d) (A:=50000) (B:=5000000000) ⟨by omega,by omega⟩ ⟨by omega,by omega⟩;have r:=mulB (a:=h.c) (b:=(sup q h.a h.b).d) (A:=100000000) (B:=5000000000) ⟨by omega,by omega⟩ ⟨by omega,by omega⟩;exact ⟨⟨by omega,by omega⟩,⟨by omega,by omega⟩,⟨by omega,by omega⟩,R.n,R.d⟩
end Go.Proofs.YtkjimfapbjdafaaGreat
