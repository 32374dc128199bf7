/-
 The edges of a region span it: a half plane of the list is implied by two edges; a region's edges make the region again.
 Conditions: none.
-/
import Derived.Test.YtbekjpkcicjcgabGreatGrGQa
import Derived.Deep.DeepCutAuto
import Derived.Deep.RegionHeld3
import Derived.Deep.DeepMust
namespace Go.Proofs.YtbekjpkcicjcgabGreat
open Go.RowKit
section
variable {α:Type} {X:α->α->Int} {D:α->α->α->Int} {L:List α}
end
section
variable {l:List Half}
end
theorem Z4 {p:List Half} (h:Xc p=true):p.length<=40:=by
 rcases reg_iff h with rfl|h
 ·simp
 ·exact h.1
theorem corners_ok {p:List Half} (hr:Xc p=true):∀ s∈XD p,XP s=true:=by
 intro s hs;obtain ⟨i,hi,rfl⟩:=List.mem_map.1 hs;exact (reg_corner hr (List.mem_range.1 hi)).ok
def lawSpan (x:KS) (s:XW):Span:=⟨(actL x s).2,(actH x s).2⟩
structure SB (s:XW) (dx dy:Int):Prop where
 d:1<=s.d/\s.d<=5000000000
 x : -5000000000000<=s.x/\s.x<=5000000000000
 y : -5000000000000<=s.y/\s.y<=5000000000000
 m : -10000000000000<=dx*s.d/\dx*s.d<=10000000000000
 n : -10000000000000<=dy*s.d/\dy*s.d<=10000000000000
theorem sgn_le {x:Int}:sgn x<=0 ↔ x<=0:=by unfold sgn;split<;>(try split)<;>omega
theorem regionOk_meetR {hs:List Half} (hok:∀ h∈hs,Xq h=true):Xc (Yk (Xk hs))=true:=by
 unfold Yk;split
 ·rename_i h
  exact regionOk_meet hok (by simpa [Yw] using h)
 ·rfl
theorem SupR.in_ {p:List Half} {a b:Int} (h:SupR p a b):(J4 p a b).In:=⟨⟨by have:=h.n;omega,by have:=h.n;omega⟩,⟨by have:=h.d;omega,by have:=h.d;omega⟩⟩
section
variable {α:Type} {X:α->α->Int} {D:α->α->α->Int} {L:List α}
end
def slk (x y d:Int) (f:Half):Int:=f.c*d-(f.a*x+f.b*y)
theorem det_slk (x y d:Int) (g h k:Half):Ya g h k*d=Xp g h*slk x y d k-Xp g k*slk x y d h+Xp h k*slk x y d g:=by
 simp only [Ya,Xp,slk];grind
theorem edge_exists {L:List Half} (gd:Zh L) {x y d:Int} (hd:0<d) (hst:∀ f∈L,0<slk x y d f):∃ e∈L,Yv Xp Ya L e:=by
 have hex:∃ e∈L,0<e.a:=by
  obtain ⟨e,he,hx⟩:=(gd.around (h:=⟨0,1,0⟩) (by unfold Kn;simp)).2;refine ⟨e,he, ?_⟩;simp only [Xp] at hx;omega
 obtain ⟨h,hh,hp,hmin⟩:=KM (P:=λ f:Half=>0<f.a/\0<slk x y d f) (le:=λ a b=>b.a*slk x y d a-a.a*slk x y d b<0∨(b.a*slk x y d a-a.a*slk x y d b=0/\0<=Xp a b))
  (by
   intro a b _ _;have:=Y3 a b;omega)
  (by
   rintro a b c ⟨ha,sa⟩ ⟨hb,sb⟩ ⟨hc,sc⟩ h1 h2;have id:b.a*(c.a*slk x y d a-a.a*slk x y d c)=c.a*(b.a*slk x y d a-a.a*slk x y d b)+a.a*(c.a*slk x y d b-b.a*slk x y d c):=by grind
   have idx:b.a*Xp a c=c.a*Xp a b+a.a*Xp b c:=by simp only [Xp];grind
   generalize slk x y d a=s1 at *;generalize slk x y d b=s2 at *;generalize slk x y d c=s3 at *;generalize b.a*s1-a.a*s2=r1 at *;generalize c.a*s2-b.a*s3=r2 at *;generalize c.a*s1-a.a*s3=r3 at *;rcases h1 with h1|⟨h1,k1⟩<;>rcases h2 with h2|⟨h2,k2⟩
   ·left;have m1:=Int.mul_pos hc (show 0 < -r1 by omega);have m2:=Int.mul_pos ha (show 0 < -r2 by omega);rw [Int.mul_neg] at m1 m2;rcases Jk r3 0 with q|q
    ·exact q
    ·have:=Int.mul_nonneg (show 0<=b.a by omega) q;omega
   ·left;have m1:=Int.mul_pos hc (show 0 < -r1 by omega);rw [Int.mul_neg] at m1;rw [h2,Int.mul_zero] at id;rcases Jk r3 0 with q|q
    ·exact q
    ·have:=Int.mul_nonneg (show 0<=b.a by omega) q;omega
   ·left;have m2:=Int.mul_pos ha (show 0 < -r2 by omega);rw [Int.mul_neg] at m2;rw [h1,Int.mul_zero] at id;rcases Jk r3 0 with q|q
    ·exact q
    ·have:=Int.mul_nonneg (show 0<=b.a by omega) q;omega
   ·right;rw [h1,h2,Int.mul_zero,Int.mul_zero] at id;have e0:=(Int.mul_eq_zero.1 id).resolve_left (by omega);refine ⟨e0, ?_⟩;have m1:=Int.mul_nonneg (show 0<=c.a by omega) k1;have m2:=Int.mul_nonneg (show 0<=a.a by omega) k2;exact gmn (a:=b.a) (by omega) hb) L (by
   obtain ⟨e,he,ha⟩:=hex;exact ⟨e,he,ha,hst e he⟩)
 obtain ⟨ha,hs⟩:=hp;refine ⟨h,hh,λ g hg k hk x1 x2=>?_⟩;have sg:∀ f∈L,0<=h.a*slk x y d f-f.a*slk x y d h/\(h.a*slk x y d f-f.a*slk x y d h=0->0<=Xp h f):=by
  intro f hf;have sf:=hst f hf;rcases Jk 0 f.a with q|q
  ·have:=hmin f hf ⟨q,sf⟩;constructor
   ·omega
   ·intro e;omega
  ·have m1:=Int.mul_pos ha sf;have m2:=Int.mul_nonneg (show 0<=-f.a by omega) (show 0<=slk x y d h by omega);rw [Int.neg_mul] at m2;constructor
   ·omega
   ·intro e;omega
 have id:Ya g h k*(d*h.a)=Xp g h*(h.a*slk x y d k-k.a*slk x y d h)+Xp h k*(h.a*slk x y d g-g.a*slk x y d h):=by
  rw [<- Int.mul_assoc,det_slk];have:Xp g k*h.a=Xp g h*k.a+Xp h k*g.a:=by simp only [Xp];grind
  generalize slk x y d g=s1 at *;generalize slk x y d h=s2 at *;generalize slk x y d k=s3 at *;generalize Xp g h=c1 at *;generalize Xp h k=c2 at *;generalize Xp g k=c3 at *;grind
 obtain ⟨u1,u2⟩:=sg g hg;obtain ⟨v1,_⟩:=sg k hk;have hg0:0<h.a*slk x y d g-g.a*slk x y d h:=by
  rcases Classical.em (h.a*slk x y d g-g.a*slk x y d h=0) with q|q
  ·have:=u2 q;have:=Y3 g h;omega
  ·omega
 have m1:=Int.mul_nonneg (show 0<=Xp g h by omega) v1;have m2:=Int.mul_pos x2 hg0;have m3:0<(d*h.a)*Ya g h k:=by rw [Int.mul_comm];omega
 exact gmp m3 (Int.mul_pos hd ha)
theorem nvoid_of {L:List Half} (gd:Zh L) {x y d:Int} (hst:∀ f∈L,0<slk x y d f) (hd:0<d):¬ GVoid L:=by
 rintro ⟨u,hu,v,hv,hne,hx,hno⟩;obtain ⟨_,h1,h2⟩:=gd.opp hu hv hne hx;have pu:=Yz (gd.nz u hu);have pv:=Yz (gd.nz v hv);have m1:=Int.mul_pos pv (hst u hu);have m2:=Int.mul_pos pu (hst v hv);have id:XU v*slk x y d u+XU u*slk x y d v=(u.c*XU v+v.c*XU u)*d:=by
  unfold slk;have e1:XU v*(u.c*d-(u.a*x+u.b*y))=XU v*u.c*d-(u.a*XU v*x+u.b*XU v*y):=by grind
  rw [e1,h1,h2];grind
 exact hno (gmp (a:=d) (by rw [Int.mul_comm];omega) hd)
theorem mov_none {f:Half->Option Half} {p:List Half} {k:Nat} (h:k<p.length) (hn:f p[k]=none):movOk f p=false/\movR f p=[]:=by
 have ha:Ko f p=false:=by
  unfold Ko;rw [List.all_eq_false];exact ⟨p[k],List.getElem_mem h,by rw [hn];decide⟩
 unfold movOk movR;rw [ha,if_pos (.inr rfl),decide_eq_false (by omega)];exact ⟨rfl,rfl⟩
theorem movL_take {f:Half->Option Half} {p:List Half} {k:Nat} {g:Half} (h:k<p.length) (hg:f p[k]=some g):movL f (p.take (k+1))=movL f (p.take k)++[g]:=by
 unfold movL;rw [Y8 p k h,List.map_append];simp [hg]
theorem movAll_take {f:Half->Option Half} {p:List Half} {k:Nat} {g:Half} (h:k<p.length) (h1:Ko f (p.take k)=true) (hg:f p[k]=some g):Ko f (p.take (k+1))=true:=by
 unfold Ko at h1 ⊢;rw [Y8 p k h,List.all_append,h1];simp [hg]
theorem movL_len (f:Half->Option Half) (p:List Half):(movL f p).length=p.length:=by unfold movL;rw [List.length_map]
structure EroB (h:Half) (r:Yu):Prop where
 x : -250000000000000<=h.a*r.d/\h.a*r.d<=250000000000000
 y : -250000000000000<=h.b*r.d/\h.b*r.d<=250000000000000
 c : -500000000000000000<=h.c*r.d/\h.c*r.d<=500000000000000000
 n : -500000000000000000<=r.n/\r.n<=500000000000000000
 d:1<=r.d/\r.d<=5000000000
theorem eroB {h:Half} {q:List Half} (hh:Xq h=true) (hq:Xc q=true) (hne:q≠[]):EroB h (J4 q h.a h.b):=by
 obtain ⟨a1,a2,a3,_⟩:=Zm.1 hh;have R:=supR hq hne (a:=h.a) (b:=h.b) ⟨by omega,by omega⟩ ⟨by omega,by omega⟩;have d1:=R.d;have p:=JE (a:=h.a) (b:=(J4 q h.a h.b).d) (A:=50000) (B:=5000000000) ⟨by omega,by omega⟩ ⟨by omega,by omega⟩;have q2:=JE (a:=h.b) (b:=(J4 q h.a h.b).d) (A:=50000) (B:=5000000000) ⟨by omega,by omega⟩ ⟨by omega,by omega⟩;have r:=JE (a:=h.c) (b:=(J4 q h.a h.b).d) (A:=100000000) (B:=5000000000) ⟨by omega,by omega⟩ ⟨by omega,by omega⟩;exact ⟨⟨by omega,by omega⟩,⟨by omega,by omega⟩,⟨by omega,by omega⟩,R.n,R.d⟩
def Zz (x y:Int):List Half:=[⟨1,0,x⟩,⟨0,1,y⟩,⟨-1,0,x⟩,⟨0,-1,y⟩]
def K3 (x y:Int):List Half:=Xw (Xk (Zz x y))
theorem gcd_unit {a b c:Int} (h:a=1∨a = -1∨b=1∨b = -1):Xh [a,b,c]=1:=by
 obtain ⟨h1,h2,_⟩:=@gcdAll_dvd a b c;have k1:=Int.natAbs_dvd_natAbs.2 h1;have k2:=Int.natAbs_dvd_natAbs.2 h2;rcases h with rfl|rfl|rfl|rfl
 ·simp at k1;exact k1
 ·simp at k1;exact k1
 ·simp at k2;exact k2
 ·simp at k2;exact k2
theorem boxHs_ok {x y:Int} (hx:1<=x/\x<=100) (hy:1<=y/\y<=100):∀ h∈Zz x y,Xq h=true:=by
 intro h hh;simp only [Zz,List.mem_cons,List.not_mem_nil,or_false] at hh;rcases hh with rfl|rfl|rfl|rfl<;>refine Zm.2 ⟨⟨by simp,by simp⟩,⟨by simp,by simp⟩,⟨by simp only;omega,by simp only;omega⟩,by simp, ?_⟩
 ·exact gcd_unit (.inl rfl)
 ·exact gcd_unit (.inr (.inr (.inl rfl)))
 ·exact gcd_unit (.inr (.inl rfl))
 ·exact gcd_unit (.inr (.inr (.inr rfl)))
theorem box_len (x y:Int):(Xw (Xk (Zz x y))).length<=40:=by
 have h1:=meetI_len (Xk (Zz x y));have h2:=J9 (Zz x y);have h3:(Zz x y).length=4:=rfl;omega
theorem boxR_ok {x y:Int} (hx:1<=x/\x<=100) (hy:1<=y/\y<=100):Xc (K3 x y)=true:=regionOk_meet (boxHs_ok hx hy) (box_len x y)
theorem box_meet (x y:Int):Yw (Xk (Zz x y))=true/\Yk (Xk (Zz x y))=K3 x y:=by
 have h:Yw (Xk (Zz x y))=true:=decide_eq_true (box_len x y);refine ⟨h, ?_⟩;unfold Yk;rw [if_pos h];rfl
theorem boxR_ne {x y:Int} (hx:1<=x/\x<=100) (hy:1<=y/\y<=100):K3 x y≠[]:=by
 have hok:=boxHs_ok hx hy;have gd:=Zj hok;have c:=YI (hs:=Yj++Zz x y) (λ f hf=>(KE (Ze hok f hf)).n);have hst:∀ f∈Xk (Zz x y),0<slk 0 0 1 f:=by
  intro f hf;have hm:=c.mem f hf;simp only [Yj,Zz,List.cons_append,List.nil_append,List.mem_cons,List.not_mem_nil,or_false] at hm;rcases hm with rfl|rfl|rfl|rfl|rfl|rfl|rfl|rfl<;>(unfold slk;simp only;omega)
 obtain ⟨e,he,hedge⟩:=edge_exists gd (by decide) hst;have hv:¬ voidB (Xk (Zz x y))=true:=λ h=>nvoid_of gd hst (by decide) ((Jv gd).1 h);unfold K3;rw [meetI_nvoid hv];intro h0;have:e∈(Xk (Zz x y)).filter (Kj (Xk (Zz x y))):=List.mem_filter.2 ⟨he,(edge_iff gd (gd.nz e he)).2 hedge⟩;rw [h0] at this;cases this
end Go.Proofs.YtbekjpkcicjcgabGreat
