/-
 The half planes of a moved region; boxes. No program is named here.
 Conditions: none.
-/
import Derived.Test.YtabfdkpdppemaaaGreatGrW
namespace Go.Proofs.YtabfdkpdppemaaaGreat
open Go.RowKit
def movL (f:Half->Option Half) (p:List Half):List Half:=p.map λ h=>(f h).getD Xe
def Z8 (f:Half->Option Half) (p:List Half):Bool:=p.all λ h=>(f h).isSome
def Ju (f:Half->Option Half) (p:List Half):Bool:=decide (p.length=0)||(Z8 f p&&YW (Xp (movL f p)))
def KF (f:Half->Option Half) (p:List Half):List Half:=if p.length=0∨Z8 f p=false then [] else Zg (Xp (movL f p))
theorem mov_void {f:Half->Option Half} {p:List Half} (h:p.length=0):Ju f p=true/\KF f p=[]:=by
 unfold Ju KF;rw [decide_eq_true h,if_pos (.inl h)];exact ⟨rfl,rfl⟩
theorem mov_none {f:Half->Option Half} {p:List Half} {k:Nat} (h:k<p.length) (hn:f p[k]=none):Ju f p=false/\KF f p=[]:=by
 have ha:Z8 f p=false:=by
  unfold Z8;rw [List.all_eq_false];exact ⟨p[k],List.getElem_mem h,by rw [hn];decide⟩
 unfold Ju KF;rw [ha,if_pos (.inr rfl),decide_eq_false (by omega)];exact ⟨rfl,rfl⟩
theorem mov_all {f:Half->Option Half} {p:List Half} (h:p.length≠0) (ha:Z8 f p=true):Ju f p=YW (Xp (movL f p))/\KF f p=Zg (Xp (movL f p)):=by
 unfold Ju KF;rw [ha,decide_eq_false h,if_neg (by intro h2;rcases h2 with h2|h2;exact h h2;cases h2)];exact ⟨rfl,rfl⟩
theorem movL_take {f:Half->Option Half} {p:List Half} {k:Nat} {g:Half} (h:k<p.length) (hg:f p[k]=some g):movL f (p.take (k+1))=movL f (p.take k)++[g]:=by
 unfold movL;rw [YY p k h,List.map_append];simp [hg]
theorem movAll_take {f:Half->Option Half} {p:List Half} {k:Nat} {g:Half} (h:k<p.length) (h1:Z8 f (p.take k)=true) (hg:f p[k]=some g):Z8 f (p.take (k+1))=true:=by
 unfold Z8 at h1 ⊢;rw [YY p k h,List.all_append,h1];simp [hg]
theorem movL_ok {f:Half->Option Half} {p:List Half} (hf:∀ h∈p,∀ g,f h=some g->Xn g=true) (ha:Z8 f p=true):∀ g∈movL f p,Xn g=true:=by
 intro g hg;unfold movL at hg;obtain ⟨h,hh,rfl⟩:=List.mem_map.1 hg;unfold Z8 at ha;have:=List.all_eq_true.1 ha h hh;cases e:f h with
 | none=>rw [e] at this;cases this
 | some g=>exact hf h hh g e
theorem movL_len (f:Half->Option Half) (p:List Half):(movL f p).length=p.length:=by unfold movL;rw [List.length_map]
theorem halfOf_ok {a b c:Int} {g:Half} (h:YN a b c=some g):Xn g=true:=by
 unfold YN at h;split at h
 ·cases h
 split at h
 ·rename_i h2
  cases h;exact h2
 ·cases h
theorem movR_ok {f:Half->Option Half} {p:List Half} (hf:∀ h∈p,∀ g,f h=some g->Xn g=true):Xl (KF f p)=true:=by
 unfold KF;split
 ·rfl
 ·rename_i h
  have ha:Z8 f p=true:=by
   cases e:Z8 f p
   ·exact absurd (.inr e) h
   ·rfl
  unfold Zg;split
  ·rename_i h2
   unfold YW at h2;exact J8 (movL_ok hf ha) (of_decide_eq_true h2)
  ·rfl
theorem eroH_ok {q:List Half} {h g:Half} (e:Zj q h=some g):Xn g=true:=halfOf_ok e
structure EroB (h:Half) (r:Y3):Prop where
 x : -250000000000000<=h.a*r.d/\h.a*r.d<=250000000000000
 y : -250000000000000<=h.b*r.d/\h.b*r.d<=250000000000000
 c : -500000000000000000<=h.c*r.d/\h.c*r.d<=500000000000000000
 n : -500000000000000000<=r.n/\r.n<=500000000000000000
 d:1<=r.d/\r.d<=5000000000
theorem eroB {h:Half} {q:List Half} (hh:Xn h=true) (hq:Xl q=true) (hne:q≠[]):EroB h (Jz q h.a h.b):=by
 obtain ⟨a1,a2,a3,_⟩:=Ze.1 hh;have R:=supR hq hne (a:=h.a) (b:=h.b) ⟨by omega,by omega⟩ ⟨by omega,by omega⟩;have d1:=R.d;have p:=mulB (a:=h.a) (b:=(Jz q h.a h.b).d) (A:=50000) (B:=5000000000) ⟨by omega,by omega⟩ ⟨by omega,by omega⟩;have q2:=mulB (a:=h.b) (b:=(Jz q h.a h.b).d) (A:=50000) (B:=5000000000) ⟨by omega,by omega⟩ ⟨by omega,by omega⟩;have r:=mulB (a:=h.c) (b:=(Jz q h.a h.b).d) (A:=100000000) (B:=5000000000) ⟨by omega,by omega⟩ ⟨by omega,by omega⟩;exact ⟨⟨by omega,by omega⟩,⟨by omega,by omega⟩,⟨by omega,by omega⟩,R.n,R.d⟩
def YK (x y:Int):List Half:=[⟨1,0,x⟩,⟨0,1,y⟩,⟨-1,0,x⟩,⟨0,-1,y⟩]
def Yw (x y:Int):List Half:=Xx (Xp (YK x y))
theorem JM {a b c:Int} (h:a=1∨a = -1∨b=1∨b = -1):Xk [a,b,c]=1:=by
 obtain ⟨h1,h2,_⟩:=@JO a b c;have k1:=Int.natAbs_dvd_natAbs.2 h1;have k2:=Int.natAbs_dvd_natAbs.2 h2;rcases h with rfl|rfl|rfl|rfl
 ·simp at k1;exact k1
 ·simp at k1;exact k1
 ·simp at k2;exact k2
 ·simp at k2;exact k2
theorem JU {x y:Int} (hx:1<=x/\x<=100) (hy:1<=y/\y<=100):∀ h∈YK x y,Xn h=true:=by
 intro h hh;simp only [YK,List.mem_cons,List.not_mem_nil,or_false] at hh;rcases hh with rfl|rfl|rfl|rfl<;>refine Ze.2 ⟨⟨by simp,by simp⟩,⟨by simp,by simp⟩,⟨by simp only;omega,by simp only;omega⟩,by simp, ?_⟩
 ·exact JM (.inl rfl)
 ·exact JM (.inr (.inr (.inl rfl)))
 ·exact JM (.inr (.inl rfl))
 ·exact JM (.inr (.inr (.inr rfl)))
theorem box_len (x y:Int):(Xx (Xp (YK x y))).length<=40:=by
 have h1:=meetI_len (Xp (YK x y));have h2:=JE (YK x y);have h3:(YK x y).length=4:=rfl;omega
theorem boxR_ok {x y:Int} (hx:1<=x/\x<=100) (hy:1<=y/\y<=100):Xl (Yw x y)=true:=J8 (JU hx hy) (box_len x y)
theorem box_meet (x y:Int):YW (Xp (YK x y))=true/\Zg (Xp (YK x y))=Yw x y:=by
 have h:YW (Xp (YK x y))=true:=decide_eq_true (box_len x y);refine ⟨h, ?_⟩;unfold Zg;rw [if_pos h];rfl
theorem boxR_ne {x y:Int} (hx:1<=x/\x<=100) (hy:1<=y/\y<=100):Yw x y≠[]:=by
 have hok:=JU hx hy;have gd:=ZT hok;have c:=YP (hs:=Yh++YK x y) (λ f hf=>(KE (Zp hok f hf)).n);have hst:∀ f∈Xp (YK x y),0<J7 0 0 1 f:=by
  intro f hf;have hm:=c.mem f hf;simp only [Yh,YK,List.cons_append,List.nil_append,List.mem_cons,List.not_mem_nil,or_false] at hm;rcases hm with rfl|rfl|rfl|rfl|rfl|rfl|rfl|rfl<;>(unfold J7;simp only;omega)
 obtain ⟨e,he,hedge⟩:=edge_exists gd (by decide) hst;have hv:¬ voidB (Xp (YK x y))=true:=λ h=>nvoid_of gd hst (by decide) ((K6 gd).1 h);unfold Yw;rw [meetI_nvoid hv];intro h0;have:e∈(Xp (YK x y)).filter (ZZ (Xp (YK x y))):=List.mem_filter.2 ⟨he,(JP gd (gd.nz e he)).2 hedge⟩;rw [h0] at this;cases this
end Go.Proofs.YtabfdkpdppemaaaGreat
