/-
 The plain geometry of signed areas: what an edge of a list of half planes is, and that an edge has a next one.
 Conditions: none.
-/
import Derived.Test.YtbekjpkcicjcgaaGreatGrA
namespace Go.Proofs.YtbekjpkcicjcgaaGreat
open Go.RowKit
theorem gmp {a b:Int} (h:0<a*b) (ha:0<a):0<b:=by
 rcases Int.lt_or_le 0 b with h1|h1
 ·exact h1
 ·have:=Int.mul_nonpos_of_nonneg_of_nonpos (Int.le_of_lt ha) h1;omega
theorem gmn {a b:Int} (h:0<=a*b) (ha:0<a):0<=b:=by
 rcases Int.lt_or_le b 0 with h1|h1
 ·have:=Int.mul_neg_of_pos_of_neg ha h1;omega
 ·exact h1
theorem gmz {a b:Int} (h:a*b=0) (ha:a≠0):b=0:=by
 rcases Int.mul_eq_zero.1 h with h1|h1
 ·exact absurd h1 ha
 ·exact h1
structure GOM {α:Type} (X:α->α->Int) (D:α->α->α->Int):Prop where
 xa:∀ a b,X a b = -X b a
 da:∀ a b c,D a b c = -D b a c
 dc:∀ a b c,D a b c=D b c a
 p3:∀ p q r s,D p q r*X p s-D p q s*X p r+X p q*D p r s=0
 p2:∀ a b c d,X a b*X c d-X a c*X b d+X a d*X b c=0
section
variable {α:Type} {X:α->α->Int} {D:α->α->α->Int} {L:List α}
def Zz (X:α->α->Int) (D:α->α->α->Int) (L:List α) (h:α):Prop:=∀ g∈L,∀ k∈L,0<X g h->0<X h k->0<D g h k
def GIns (X:α->α->Int) (D:α->α->α->Int) (L:List α) (h g:α):Prop:=X h g≠0/\∀ f∈L,0<=X h g*D h g f
def GES (X:α->α->Int) (D:α->α->α->Int) (L:List α) (h:α):Prop:=∃ g∈L,∃ k∈L,GIns X D L h g/\GIns X D L h k/\D h g k≠0
def GNV (X:α->α->Int) (D:α->α->α->Int) (L:List α):Prop:=∀ u∈L,∀ v∈L,X u v=0->u≠v->∀ g,X u g≠0->0<X u g*D u g v
theorem GOM.mirror (h:GOM X D):GOM (λ a b=>-X a b) (λ a b c=>-D a b c) where
 xa a b:=by have:=h.xa a b;omega
 da a b c:=by have:=h.da a b c;omega
 dc a b c:=by have:=h.dc a b c;omega
 p3 p q r s:=by have:=h.p3 p q r s;simp only [Int.neg_mul_neg];exact this
 p2 a b c d:=by have:=h.p2 a b c d;simp only [Int.neg_mul_neg];exact this
theorem GOM.x0 (h:GOM X D) (a:α):X a a=0:=by have:=h.xa a a;omega
theorem GOM.d0 (h:GOM X D) (a b:α):D a b a=0:=by
 have h1:=h.dc a b a;have h2:=h.dc b a a;have h3:=h.da a a b;omega
theorem GOM.d1 (h:GOM X D) (a b:α):D a b b=0:=by
 have h1:=h.dc a b b;have h2:=h.da b b a;omega
theorem GOM.d23 (h:GOM X D) (a b c:α):D a b c = -D a c b:=by
 have h1:=h.dc a b c;have h2:=h.da b c a;have h3:=h.dc c b a;have h4:=h.dc b a c;omega
theorem GOM.d13 (h:GOM X D) (a b c:α):D a b c = -D c b a:=by
 have h1:=h.dc a b c;have h2:=h.da b c a;omega
theorem Zz.mirror (o:GOM X D) {h:α} (e:Zz X D L h):Zz (λ a b=>-X a b) (λ a b c=>-D a b c) L h:=by
 intro g hg k hk h1 h2;simp only at h1 h2 ⊢;have h1':0<X h g:=by have:=o.xa h g;omega
 have h2':0<X k h:=by have:=o.xa k h;omega
 have:=e k hk g hg h2' h1';have:=o.d13 g h k;omega
theorem Zz.unmirror (o:GOM X D) {h:α} (e:Zz (λ a b=>-X a b) (λ a b c=>-D a b c) L h):Zz X D L h:=by
 have:=e.mirror o.mirror;simpa only [Int.neg_neg] using this
theorem GNV.mirror (n:GNV X D L):GNV (λ a b=>-X a b) (λ a b c=>-D a b c) L:=by
 intro u hu v hv h0 hne g hg;simp only at h0 hg ⊢;have:=n u hu v hv Oz hne g Oz;simp only [Int.neg_mul_neg];exact this
theorem gexists_min {P:α->Prop} {le:α->α->Prop} (tot:∀ a b,P a->P b->le a b∨le b a) (tr:∀ a b c,P a->P b->P c->le a b->le b c->le a c) :
 ∀ l:List α,(∃ g∈l,P g)->∃ m∈l,P m/\∀ g∈l,P g->le m g
 | [],h=>by obtain ⟨g,hg,_⟩:=h;cases hg
 | x :: l,h=>by
  by_cases hl:∃ g∈l,P g
  ·obtain ⟨m,hm,hp,hmin⟩:=gexists_min tot tr l hl;by_cases hx:P x
   ·rcases tot m x hp hx with h1|h1
    ·refine ⟨m,by simp [hm],hp,λ g hg hpg=>?_⟩;rcases List.mem_cons.1 hg with rfl|hg
     ·exact h1
     ·exact hmin g hg hpg
    ·refine ⟨x,Sz,hx,λ g hg hpg=>?_⟩;rcases List.mem_cons.1 hg with rfl|hg
     ·rcases tot g g hpg hpg with h|h<;>exact h
     ·exact tr x m g hx hp hpg h1 (hmin g hg hpg)
   ·refine ⟨m,by simp [hm],hp,λ g hg hpg=>?_⟩;rcases List.mem_cons.1 hg with rfl|hg
    ·exact absurd hpg hx
    ·exact hmin g hg hpg
  ·obtain ⟨g,hg,hp⟩:=h;rcases List.mem_cons.1 hg with rfl|hg
   ·refine ⟨g,Sz,hp,λ k hk hpk=>?_⟩;rcases List.mem_cons.1 hk with rfl|hk
    ·rcases tot k k hpk hpk with h|h<;>exact h
    ·exact absurd ⟨k,hk,hpk⟩ hl
   ·exact absurd ⟨g,hg,hp⟩ hl
theorem gnext (o:GOM X D) (nv:GNV X D L) {h:α} (hh:h∈L) (e:Zz X D L h) (ex:∃ g∈L,0<X h g) :
 ∃ g∈L,0<X h g/\(∀ f∈L,0<=D h g f)/\(∀ f∈L,0<X g f->0<D h g f)/\Zz X D L g:=by
 obtain ⟨g,hg,hp,hmin⟩:=gexists_min (P:=λ g=>0<X h g) (le:=λ a b=>0<D h a b∨(D h a b=0/\0<=X b a))
  (by
   intro a b _ _;have h1:=o.d23 h a b;have h2:=o.xa a b;omega)
  (by
   intro a b c pa pb pc h1 h2;have h3:=o.p3 h a b c;have h4:=o.p2 h a b c;have q1:0<=D h a b*X h c:=Int.mul_nonneg Oz Oz;have q2:0<=X h a*D h b c:=Int.mul_nonneg Oz Oz;have q3:D h a c*X h b=D h a b*X h c+X h a*D h b c:=Oz
   have q4:0<=D h a c:=gmn (a:=X h b) (by rw [Int.mul_comm];omega) pb;rcases Int.lt_or_eq_of_le q4 with q5|q5
   ·exact .inl q5
   ·refine .inr ⟨q5.symm, ?_⟩;rw [<- q5,Int.zero_mul] at q3;have z1:D h a b=0:=by
     rcases h1 with h1|h1
     ·have:=Int.mul_pos h1 pc;omega
     ·exact h1.1
    have z2:D h b c=0:=by
     rcases h2 with h2|h2
     ·have:=Int.mul_pos pa h2;omega
     ·exact h2.1
    have y1:0<=X b a:=Oz
    have y2:0<=X c b:=Oz
    have e1:=o.xa a b;have e2:=o.xa b c;have e3:=o.xa a c;have w1:0<=X h a*X c b:=Int.mul_nonneg Oz y2;have w2:0<=X h c*X b a:=Int.mul_nonneg Oz y1;rw [e2,e3,e1] at h4;simp only [Int.mul_neg] at h4;exact gmn (a:=X h b) Oz pb)
  L ex
 have hA:∀ f∈L,0<=D h g f/\(0<X g f->0<D h g f):=by
  intro f hf;rcases Int.lt_trichotomy (X h f) 0 with h1|h1|h1
  ·have:=e f hf g hg (by have:=o.xa f h;omega) hp;have:=o.dc f h g;exact ⟨Oz,λ _=>Oz⟩
  ·by_cases hfh:f=h
   ·subst hfh;have:=o.d0 f g;have:=o.xa g f;exact ⟨Oz,λ _=>Oz⟩
   ·have:=nv h hh f hf h1 (Ne.symm hfh) g Oz;have:=gmp this hp;exact ⟨Oz,λ _=>this⟩
  ·have h2:=hmin f hf h1;have:=o.xa f g;exact ⟨Oz,λ _=>Oz⟩
 refine ⟨g,hg,hp,λ f hf=>(hA f hf).1,λ f hf=>(hA f hf).2, ?_⟩;intro f hf k hk h1 h2;have hf1:=(hA f hf).1;have hk1:=(hA k hk).2 h2;have h3:=o.p3 g h f k;have e1:=o.da g h f;have e2:=o.da g h k;have e3:=o.da g f k;have e4:=o.xa g f;have e5:=o.xa g h;rw [e1,e2,e3,e4,e5] at h3;simp only [Int.neg_mul,Int.mul_neg,Int.neg_neg] at h3;have q1:=Int.mul_pos hk1 h1;have q2:=Int.mul_nonneg hf1 (Int.le_of_lt h2);exact gmp (a:=X h g) Oz hp
theorem gprev (o:GOM X D) (nv:GNV X D L) {h:α} (hh:h∈L) (e:Zz X D L h) (ex:∃ g∈L,X h g<0) :
 ∃ g∈L,X h g<0/\(∀ f∈L,D h g f<=0)/\Zz X D L g:=by
 obtain ⟨g,hg,hp,h1,_,h3⟩:=gnext o.mirror nv.mirror hh (e.mirror o) (by
  obtain ⟨g,hg,h0⟩:=ex;exact ⟨g,hg,Oz⟩)
 exact ⟨g,hg,Oz,λ f hf=>by have:=h1 f hf;omega,h3.unmirror o⟩
theorem edge_of_ES (o:GOM X D) {h:α} (e:GES X D L h):Zz X D L h:=by
 obtain ⟨p,hp,q,hq,⟨p0,pi⟩,⟨q0,qi⟩,hne⟩:=e;intro g hg k hk h1 h2;have xg:X h g<0:=by have:=o.xa h g;omega
 have key:∀ r,X h r≠0->(∀ f∈L,0<=X h r*D h r f)->0<=D g h k/\(D g h k=0->D h r g=0):=by
  intro r r0 ri;have h3:=o.p3 h r g k;have e1:=o.da g h k;have w1:=ri g hg;have w2:=ri k hk;have sq:0<X h r*X h r:=by
   rcases Int.lt_or_gt_of_ne r0 with h|h
   ·exact Int.mul_pos_of_neg_of_neg h h
   ·exact Int.mul_pos h h
  have id:X h r*X h r*D g h k=X h r*D h r g*X h k+X h r*D h r k * -X h g:=by
   have:=congrArg (λ z=>X h r*z) h3;rw [e1];grind
  have t1:=Int.mul_nonneg w1 (Int.le_of_lt h2);have t2:=Int.mul_nonneg w2 (show 0<=-X h g by omega);refine ⟨gmn (a:=X h r*X h r) Oz sq,λ Xa=>?_⟩;rw [Xa,Int.mul_zero] at id;have t3:X h r*D h r g*X h k=0:=Oz
  have t4:=gmz (by rw [Int.mul_comm];exact t3) (show X h k≠0 by omega);exact gmz t4 r0
 have k1:=key p p0 pi;rcases Int.lt_or_eq_of_le k1.1 with h3|h3
 ·exact h3
 ·exfalso;have z1:=k1.2 h3.symm;have z2:=(key q q0 qi).2 h3.symm;have h4:=o.p3 h g p q;have e1:=o.d23 h g p;have e2:=o.d23 h g q;rw [e1,e2,z1,z2] at h4;simp only [Int.neg_zero,Int.zero_mul,Int.sub_zero,Int.zero_add] at h4;exact hne (gmz h4 Oz)
theorem ES_of_edge (o:GOM X D) (nv:GNV X D L) {h:α} (hh:h∈L) (e:Zz X D L h) (ex:∃ g∈L,0<X h g) (ex':∃ g∈L,X h g<0):GES X D L h:=by
 obtain ⟨g,hg,hp,h1,_,_⟩:=gnext o nv hh e ex;obtain ⟨k,hk,hq,h2,_⟩:=gprev o nv hh e ex';refine ⟨g,hg,k,hk,⟨Oz,λ f hf=>Int.mul_nonneg Oz (h1 f hf)⟩,⟨Oz,λ f hf=>Int.mul_nonneg_of_nonpos_of_nonpos Oz (h2 f hf)⟩, ?_⟩;have:=e k hk g hg (by have:=o.xa k h;omega) hp;have:=o.dc k h g;omega
theorem ES_void (o:GOM X D) {u v:α} (hu:u∈L) (hv:v∈L) {m n:Int} (hm:0<m) (hn:0<n)
 (hd:∀ h g,X h u≠0->X h g≠0->X h g*(m*D h g u+n*D h g v)<=0) {h:α} (e:GES X D L h):X h u=0:=by
 obtain ⟨p,hp,q,hq,⟨p0,pi⟩,⟨q0,qi⟩,hne⟩:=e;rcases Classical.em (X h u=0) with h0|h0
 ·exact h0
 ·exfalso;have key:∀ r,X h r≠0->(∀ f∈L,0<=X h r*D h r f)->D h r u=0:=by
   intro r r0 ri;have w1:=ri u hu;have w2:=ri v hv;have t:=hd h r h0 r0;have t1:=Int.mul_nonneg (Int.le_of_lt hm) w1;have t2:=Int.mul_nonneg (Int.le_of_lt hn) w2;have id:X h r*(m*D h r u+n*D h r v)=m*(X h r*D h r u)+n*(X h r*D h r v):=by grind
   have t3:m*(X h r*D h r u)=0:=Oz
   exact gmz (gmz t3 Oz) r0
  have z1:=key p p0 pi;have z2:=key q q0 qi;have h4:=o.p3 h u p q;have e1:=o.d23 h u p;have e2:=o.d23 h u q;rw [e1,e2,z1,z2] at h4;simp only [Int.neg_zero,Int.zero_mul,Int.sub_zero,Int.zero_add] at h4;exact hne (gmz h4 h0)
theorem none_between (o:GOM X D) {h g f:α} (hh:h∈L) (hg:g∈L) (hf:f∈L) (h1:∀ f∈L,0<=D h g f) (a:0<X h f) (b:0<X f g) (e:Zz X D L f):False:=by
 have:=e h hh g hg a b;have:=h1 f hf;have:=o.d23 h g f;omega
end
def XC (g h:Half):Int:=g.a*h.b-g.b*h.a
def Za (p q r:Half):Int:=r.c*(p.a*q.b-p.b*q.a)-r.a*(p.c*q.b-q.c*p.b)-r.b*(p.a*q.c-q.a*p.c)
theorem gom:GOM XC Za where
 xa a b:=by simp only [XC];grind
 da a b c:=by simp only [Za];grind
 dc a b c:=by simp only [Za];grind
 p3 p q r s:=by simp only [Za,XC];grind
 p2 a b c d:=by simp only [XC];grind
def KH (h:Half):Prop:=¬(h.a=0/\h.b=0)
def X5 (h:Half):Int:=if h.a=0 then (h.b.natAbs:Int) else (h.a.natAbs:Int)
def Z0 (h:Half):Bool:=decide (0<h.b)||(decide (h.b=0)&&decide (0<h.a))
def ZU (g h:Half):Bool:=if Z0 g=Z0 h then decide (0<XC g h) else Z0 g
def Yo (g h:Half):Bool:=decide (XC g h=0)&&(Z0 g == Z0 h)
theorem YW {h:Half} (n:KH h):0<X5 h:=by unfold X5 KH at *;split<;>omega
theorem ZW {h:Half}:Z0 h=true ↔ 0<h.b∨(h.b=0/\0<h.a):=by simp [Z0]
theorem lower_iff {h:Half} (n:KH h):Z0 h=false ↔ h.b<0∨(h.b=0/\h.a<0):=by
 unfold KH at n;simp [Z0];omega
def hneg (h:Half):Half:=⟨-h.a,-h.b,h.c⟩
theorem neg_nz {h:Half} (n:KH h):KH (hneg h):=by unfold KH hneg at *;simp only;omega
theorem neg_upper {h:Half} (n:KH h):Z0 (hneg h) = !Z0 h:=by
 cases e:Z0 h
 ·have:=(lower_iff n).1 e;rw [Bool.not_false,ZW];simp only [hneg];omega
 ·have:=ZW.1 e;rw [Bool.not_true,lower_iff (neg_nz n)];simp only [hneg];omega
theorem crs_neg (g h:Half):XC (hneg g) h = -XC g h:=by simp only [XC,hneg];grind
theorem crs_neg2 (g h:Half):XC g (hneg h) = -XC g h:=by simp only [XC,hneg];grind
theorem Zx (g h:Half):XC g h = -XC h g:=gom.xa g h
theorem up_trans {g h k:Half} (ug:Z0 g=true) (uh:Z0 h=true) (uk:Z0 k=true) (h1:0<=XC g h) (h2:0<=XC h k) :
 0<=XC g k/\(0<XC g h∨0<XC h k->0<XC g k):=by
 rw [ZW] at ug uh uk;have id:h.b*XC g k=g.b*XC h k+k.b*XC g h:=by simp only [XC];grind
 rcases uh with hb|⟨hb,ha⟩
 ·have p1:0<=g.b*XC h k:=Int.mul_nonneg Oz h2;have p2:0<=k.b*XC g h:=Int.mul_nonneg Oz h1;refine ⟨gmn (a:=h.b) Oz hb,λ h3=>?_⟩;have kb:0<k.b:=by
   rcases uk with u|⟨u,u2⟩
   ·exact u
   ·have e:XC h k = -(h.b*k.a):=by simp only [XC,u];grind
    have:=Int.mul_pos hb u2;omega
  rcases h3 with h3|h3
  ·have:=Int.mul_pos kb h3;exact gmp (a:=h.b) Oz hb
  ·rcases ug with u|⟨u,u2⟩
   ·have:=Int.mul_pos u h3;exact gmp (a:=h.b) Oz hb
   ·have e:XC g k=g.a*k.b:=by simp only [XC,u];grind
    rw [e];exact Int.mul_pos u2 kb
 ·have e1:XC g h = -(h.a*g.b):=by simp only [XC,hb];grind
  have e2:XC h k=h.a*k.b:=by simp only [XC,hb];grind
  have gb:g.b=0:=by
   rcases ug with u|⟨u,_⟩
   ·have:=Int.mul_pos ha u;omega
   ·exact u
  have ga:0<g.a:=Oz
  have e3:XC g k=g.a*k.b:=by simp only [XC,gb];grind
  rw [e3];have kb:0<=k.b:=Oz
  refine ⟨Int.mul_nonneg Oz kb,λ h3=>?_⟩;rcases h3 with h3|h3
  ·rw [e1,gb] at h3;simp at h3
  ·rw [e2] at h3;exact Int.mul_pos ga (gmp h3 ha)
theorem dir_trans {g h k:Half} (ng:KH g) (nh:KH h) (nk:KH k) (e1:Z0 g=Z0 h) (e2:Z0 h=Z0 k) (h1:0<=XC g h) (h2:0<=XC h k) :
 0<=XC g k/\(0<XC g h∨0<XC h k->0<XC g k):=by
 cases e:Z0 h
 ·rw [e] at e1 e2;have u1:Z0 (hneg g)=true:=by rw [neg_upper ng,e1];rfl
  have u2:Z0 (hneg h)=true:=by rw [neg_upper nh,e];rfl
  have u3:Z0 (hneg k)=true:=by rw [neg_upper nk,<- e2];rfl
  have x:∀ p q,XC (hneg p) (hneg q)=XC p q:=λ p q=>by rw [crs_neg,crs_neg2];omega
  have:=up_trans u1 u2 u3 (by rw [x];exact h1) (by rw [x];exact h2);rwa [x,x,x] at this
 ·rw [e] at e1 e2;exact up_trans e1 e e2.symm h1 h2
theorem bef_irr (g:Half):ZU g g=false:=by simp [ZU,XC];grind
theorem bef_asymm {g h:Half} (h1:ZU g h=true):ZU h g=false:=by
 unfold ZU at *;have:=Zx g h;by_cases e:Z0 g=Z0 h
 ·rw [if_pos e] at h1;rw [if_pos e.symm];simp at *;omega
 ·rw [if_neg e] at h1;rw [if_neg (λ x=>e x.symm)];cases e2:Z0 h
  ·rfl
  ·rw [h1,e2] at e;exact absurd rfl e
theorem bef_trans {g h k:Half} (ng:KH g) (nh:KH h) (nk:KH k) (h1:ZU g h=true) (h2:ZU h k=true):ZU g k=true:=by
 unfold ZU at *;by_cases e:Z0 g=Z0 h
 ·rw [if_pos e] at h1;by_cases e2:Z0 h=Z0 k
  ·rw [if_pos e2] at h2;rw [if_pos (e.trans e2)];simp only [decide_eq_true_eq] at *;exact (dir_trans ng nh nk e e2 Oz Oz).2 (.inl h1)
  ·rw [if_neg e2] at h2;rw [if_neg (by rw [e];exact e2),e];exact h2
 ·rw [if_neg e] at h1;have:Z0 h=false:=by
   cases e2:Z0 h
   ·rfl
   ·rw [h1,e2] at e;exact absurd rfl e
  have:Z0 k=false:=by
   cases e2:Z0 k
   ·rfl
   ·rw [this,e2] at h2;simp at h2
  rw [if_neg (by rw [h1,this];decide)];exact h1
theorem bef_tri {g h:Half} (h1:ZU g h=false) (h2:Yo g h=false):ZU h g=true:=by
 unfold ZU Yo at *;have:=Zx g h;by_cases e:Z0 g=Z0 h
 ·rw [if_pos e] at h1;rw [if_pos e.symm];simp [e] at *;omega
 ·rw [if_neg e] at h1;rw [if_neg (λ x=>e x.symm)];cases e2:Z0 h
  ·rw [h1,e2] at e;exact absurd rfl e
  ·rfl
theorem hpar {g h:Half} (ng:KH g) (nh:KH h) (hx:XC g h=0) :
 (Z0 g=Z0 h/\g.a*X5 h=h.a*X5 g/\g.b*X5 h=h.b*X5 g)∨(Z0 g≠Z0 h/\g.a*X5 h = -(h.a*X5 g)/\g.b*X5 h = -(h.b*X5 g)):=by
 unfold XC at hx;unfold KH at ng nh;by_cases ga:g.a=0
 ·have gb:g.b≠0:=Oz
  rw [ga,Int.zero_mul] at hx;have ha:h.a=0:=gmz (a:=g.b) Oz gb;have hb:h.b≠0:=Oz
  simp only [X5,ga,ha,if_true,Z0,Int.lt_irrefl,decide_false,Bool.and_false,Bool.or_false];rcases Int.lt_or_gt_of_ne gb with h1|h1<;>rcases Int.lt_or_gt_of_ne hb with h2|h2
  ·left;have e1:(g.b.natAbs:Int) = -g.b:=Oz
   have e2:(h.b.natAbs:Int) = -h.b:=Oz
   rw [e1,e2];refine ⟨?_,Sz,by grind⟩;rw [decide_eq_false Oz,decide_eq_false Oz]
  ·right;have e1:(g.b.natAbs:Int) = -g.b:=Oz
   have e2:(h.b.natAbs:Int)=h.b:=Oz
   rw [e1,e2];refine ⟨?_,Sz,by grind⟩;rw [decide_eq_false Oz,decide_eq_true Oz];decide
  ·right;have e1:(g.b.natAbs:Int)=g.b:=Oz
   have e2:(h.b.natAbs:Int) = -h.b:=Oz
   rw [e1,e2];refine ⟨?_,Sz,by grind⟩;rw [decide_eq_true Oz,decide_eq_false Oz];decide
  ·left;have e1:(g.b.natAbs:Int)=g.b:=Oz
   have e2:(h.b.natAbs:Int)=h.b:=Oz
   rw [e1,e2];refine ⟨?_,Sz,by grind⟩;rw [decide_eq_true Oz,decide_eq_true Oz]
 ·have ha:h.a≠0:=by
   intro ha;rw [ha,Int.mul_zero,Int.sub_zero] at hx;have:=gmz hx ga;omega
  have hx':g.a*h.b=g.b*h.a:=Oz
  have up:∀ k:Half,k.a≠0->(Z0 k=true ↔ 0<k.b∨(k.b=0/\0<k.a)):=λ k _=>ZW;have sgb:(0<g.a/\0<h.a∨g.a<0/\h.a<0)->((0<g.b ↔ 0<h.b)/\(g.b=0 ↔ h.b=0)):=by
   rintro (⟨p,q⟩|⟨p,q⟩)
   ·refine ⟨⟨λ r=>?_,λ r=>?_⟩,⟨λ r=>?_,λ r=>?_⟩⟩
    ·have:=Int.mul_pos r q;exact gmp (a:=g.a) Oz p
    ·have:=Int.mul_pos p r;exact gmp (a:=h.a) (by rw [Int.mul_comm];omega) q
    ·rw [r,Int.zero_mul] at hx';exact gmz hx' ga
    ·rw [r,Int.mul_zero] at hx';exact gmz (a:=h.a) (by rw [Int.mul_comm];omega) ha
   ·refine ⟨⟨λ r=>?_,λ r=>?_⟩,⟨λ r=>?_,λ r=>?_⟩⟩
    ·have:=Int.mul_neg_of_pos_of_neg r q;exact gmp (a:=-g.a) (by rw [Int.neg_mul];omega) Oz
    ·have:=Int.mul_neg_of_neg_of_pos p r;exact gmp (a:=-h.a) (by rw [Int.neg_mul,Int.mul_comm];omega) Oz
    ·rw [r,Int.zero_mul] at hx';exact gmz hx' ga
    ·rw [r,Int.mul_zero] at hx';exact gmz (a:=h.a) (by rw [Int.mul_comm];omega) ha
  have sgn':(0<g.a/\h.a<0∨g.a<0/\0<h.a)->((0<g.b ↔ h.b<0)/\(g.b<0 ↔ 0<h.b)):=by
   rintro (⟨p,q⟩|⟨p,q⟩)
   ·refine ⟨⟨λ r=>?_,λ r=>?_⟩,⟨λ r=>?_,λ r=>?_⟩⟩
    ·have:=Int.mul_neg_of_pos_of_neg r q;have:=gmp (a:=g.a) (b:=-h.b) (by rw [Int.mul_neg];omega) p;omega
    ·have:=Int.mul_neg_of_pos_of_neg p r;exact gmp (a:=-h.a) (by rw [Int.neg_mul,Int.mul_comm];omega) Oz
    ·have:=Int.mul_pos_of_neg_of_neg r q;exact gmp (a:=g.a) Oz p
    ·have:=Int.mul_pos p r;have:=gmp (a:=-h.a) (b:=-g.b) (by rw [Int.neg_mul_neg,Int.mul_comm];omega) Oz;omega
   ·refine ⟨⟨λ r=>?_,λ r=>?_⟩,⟨λ r=>?_,λ r=>?_⟩⟩
    ·have:=Int.mul_pos r q;have:=gmp (a:=-g.a) (b:=-h.b) (by rw [Int.neg_mul_neg];omega) Oz;omega
    ·have:=Int.mul_pos_of_neg_of_neg p r;exact gmp (a:=h.a) (by rw [Int.mul_comm];omega) q
    ·have:=Int.mul_neg_of_neg_of_pos r q;exact gmp (a:=-g.a) (by rw [Int.neg_mul];omega) Oz
    ·have:=Int.mul_neg_of_neg_of_pos p r;have:=gmp (a:=h.a) (b:=-g.b) (by rw [Int.mul_neg,Int.mul_comm];omega) q;omega
  simp only [X5,if_neg ga,if_neg ha];have bo:∀ p q:Bool,(p=true ↔ q=true)->p=q:=Dz
  have bn:∀ p q:Bool,(p=true ↔ ¬ q=true)->p≠q:=Dz
  rcases Int.lt_or_gt_of_ne ga with h1|h1<;>rcases Int.lt_or_gt_of_ne ha with h2|h2
  ·left;have e1:(g.a.natAbs:Int) = -g.a:=Oz
   have e2:(h.a.natAbs:Int) = -h.a:=Oz
   rw [e1,e2];refine ⟨bo _ _ ?_,by grind,by grind⟩;have:=sgb Oz;rw [ZW,ZW];omega
  ·right;have e1:(g.a.natAbs:Int) = -g.a:=Oz
   have e2:(h.a.natAbs:Int)=h.a:=Oz
   rw [e1,e2];refine ⟨bn _ _ ?_,by grind,by grind⟩;have:=sgn' Oz;rw [ZW,ZW];omega
  ·right;have e1:(g.a.natAbs:Int)=g.a:=Oz
   have e2:(h.a.natAbs:Int) = -h.a:=Oz
   rw [e1,e2];refine ⟨bn _ _ ?_,by grind,by grind⟩;have:=sgn' Oz;rw [ZW,ZW];omega
  ·left;have e1:(g.a.natAbs:Int)=g.a:=Oz
   have e2:(h.a.natAbs:Int)=h.a:=Oz
   rw [e1,e2];refine ⟨bo _ _ ?_,by grind,by grind⟩;have:=sgb Oz;rw [ZW,ZW];omega
def Zu (g h:Half):Half:=if h.c*X5 g<g.c*X5 h then h else g
def Ju:List Half->Half->List Half
 | [],h=>[h]
 | x :: r,h=>if ZU x h=true then x :: Ju r h else if Yo x h=true then Zu x h :: r else h :: x :: r
def Y8 (hs:List Half):List Half:=hs.foldl Ju []
def K9 (l:List Half):Prop:=l.Pairwise λ g h=>ZU g h=true
def GCov (x h:Half):Prop:=Yo x h=true/\x.c*X5 h<=h.c*X5 x
theorem Kq {g h:Half}:Yo g h=true ↔ XC g h=0/\Z0 g=Z0 h:=by simp [Yo]
theorem same_refl (h:Half):Yo h h=true:=Kq.2 ⟨gom.x0 h,rfl⟩
theorem same_symm {g h:Half} (s:Yo g h=true):Yo h g=true:=by
 rw [Kq] at *;have:=Zx g h;exact ⟨Oz,s.2.symm⟩
theorem J2 {x h:Half} (nx:KH x) (nh:KH h) (s:Yo x h=true):x.a*X5 h=h.a*X5 x/\x.b*X5 h=h.b*X5 x:=by
 obtain ⟨s1,s2⟩:=Kq.1 s;rcases hpar nx nh s1 with ⟨_,h1,h2⟩|⟨h0,_⟩
 ·exact ⟨h1,h2⟩
 ·exact absurd s2 h0
theorem same_crs {x h:Half} (nx:KH x) (nh:KH h) (s:Yo x h=true) (k:Half):X5 h*XC x k=X5 x*XC h k:=by
 obtain ⟨h1,h2⟩:=J2 nx nh s;simp only [XC];grind
theorem gsign_eq {m n a b:Int} (hm:0<m) (hn:0<n) (h:m*a=n*b):(0<a ↔ 0<b)/\(a=0 ↔ b=0):=by
 refine ⟨⟨λ h1=>?_,λ h1=>?_⟩,⟨λ h1=>?_,λ h1=>?_⟩⟩
 ·have:=Int.mul_pos hm h1;exact gmp (a:=n) Oz hn
 ·have:=Int.mul_pos hn h1;exact gmp (a:=m) Oz hm
 ·rw [h1,Int.mul_zero] at h;exact gmz h.symm Oz
 ·rw [h1,Int.mul_zero] at h;exact gmz h Oz
theorem same_bef {x h:Half} (nx:KH x) (nh:KH h) (s:Yo x h=true) (k:Half):ZU x k=ZU h k/\ZU k x=ZU k h:=by
 have hc:=same_crs nx nh s k;have hs:=(gsign_eq (YW nh) (YW nx) hc).1;have Xa:=(gsign_eq (YW nh) (YW nx) hc).2;have u:=(Kq.1 s).2;have a1:=Zx x k;have a2:=Zx h k;unfold ZU;rw [u];constructor
 ·by_cases e:Z0 h=Z0 k
  ·rw [if_pos e,if_pos e];exact decide_eq_decide.2 hs
  ·rw [if_neg e,if_neg e]
 ·by_cases e:Z0 k=Z0 h
  ·rw [if_pos e,if_pos e];exact decide_eq_decide.2 Oz
  ·rw [if_neg e,if_neg e]
theorem same_trans {x h k:Half} (nx:KH x) (nh:KH h) (s1:Yo x h=true) (s2:Yo h k=true):Yo x k=true:=by
 have hc:=(gsign_eq (YW nh) (YW nx) (same_crs nx nh s1 k)).2;rw [Kq] at *;exact ⟨hc.2 s2.1,s1.2.trans s2.2⟩
theorem JN (h:Half):GCov h h:=⟨same_refl h,Int.le_refl _⟩
theorem cov_trans {x h k:Half} (nx:KH x) (nh:KH h) (nk:KH k) (c1:GCov x h) (c2:GCov h k):GCov x k:=by
 refine ⟨same_trans nx nh c1.1 c2.1, ?_⟩;have p1:=YW nx;have p2:=YW nh;have p3:=YW nk;have q1:=Int.mul_le_mul_of_nonneg_right c1.2 (Int.le_of_lt p3);have q2:=Int.mul_le_mul_of_nonneg_right c2.2 (Int.le_of_lt p1);have e1:X5 h*(k.c*X5 x-x.c*X5 k)=(k.c*X5 h*X5 x)-(x.c*X5 h*X5 k):=by grind
 have e2:h.c*X5 x*X5 k=h.c*X5 k*X5 x:=by grind
 have:=gmn (a:=X5 h) (b:=k.c*X5 x-x.c*X5 k) (by rw [e1];omega) p2;omega
theorem tighter_or (x h:Half):Zu x h=x∨Zu x h=h:=by unfold Zu;split<;>simp
theorem tighter_cov {x h:Half} (s:Yo x h=true):GCov (Zu x h) x/\GCov (Zu x h) h:=by
 unfold Zu;split
 ·exact ⟨⟨same_symm s,Oz⟩,JN h⟩
 ·exact ⟨JN x,⟨s,Oz⟩⟩
theorem ins_mem:∀ {l:List Half} {h x:Half},x∈Ju l h->x∈l∨x=h
 | [],h,x,m=>by simp [Ju] at m;exact .inr m
 | y :: r,h,x,m=>by
  unfold Ju at m;split at m
  ·rcases List.mem_cons.1 m with rfl|m
   ·simp
   ·rcases ins_mem m with m|m
    ·simp [m]
    ·exact .inr m
  ·split at m
   ·rcases List.mem_cons.1 m with rfl|m
    ·rcases tighter_or y h with e|e<;>rw [e]<;>simp
    ·simp [m]
   ·rcases List.mem_cons.1 m with rfl|m
    ·simp
    ·exact .inl m
theorem ins_sorted:∀ {l:List Half} {h:Half},(∀ x∈l,KH x)->KH h->K9 l->K9 (Ju l h)
 | [],h,_,_,_=>by simp [Ju,K9]
 | y :: r,h,nl,nh,hs=>by
  have hs':=List.pairwise_cons.1 hs;have ny:=nl y Sz;have nr:∀ x∈r,KH x:=λ x hx=>nl x (by simp [hx]);unfold Ju;split
  ·rename_i hb
   refine List.pairwise_cons.2 ⟨λ z Xa=>?_,ins_sorted nr nh hs'.2⟩;rcases ins_mem Xa with Xa|rfl
   ·exact hs'.1 z Xa
   ·exact hb
  ·rename_i hb
   split
   ·rename_i hd
    refine List.pairwise_cons.2 ⟨λ z Xa=>?_,hs'.2⟩;rcases tighter_or y h with e|e<;>rw [e]
    ·exact hs'.1 z Xa
    ·rw [<- (same_bef ny nh hd z).1];exact hs'.1 z Xa
   ·rename_i hd
    have hb2:=bef_tri (by simpa using hb) (by simpa using hd);refine List.pairwise_cons.2 ⟨λ z Xa=>?_,hs⟩;rcases List.mem_cons.1 Xa with rfl|Xa
    ·exact hb2
    ·exact bef_trans nh ny (nr z Xa) hb2 (hs'.1 z Xa)
theorem ins_cov:∀ {l:List Half} {h:Half},(∀ x∈l,KH x)->KH h->∀ k,k∈l∨k=h->∃ y∈Ju l h,GCov y k
 | [],h,_,_,k,hk=>by
  obtain rfl:k=h:=by simpa using hk
  exact ⟨k,by simp [Ju],JN k⟩
 | y :: r,h,nl,nh,k,hk=>by
  have ny:=nl y Sz;have nr:∀ x∈r,KH x:=λ x hx=>nl x (by simp [hx]);unfold Ju;split
  ·by_cases e:k=y
   ·exact ⟨y,Sz,e ▸ JN y⟩
   ·obtain ⟨z,Xa,hc⟩:=ins_cov nr nh k (by
     rcases hk with hk|hk
     ·rcases List.mem_cons.1 hk with hk|hk
      ·exact absurd hk e
      ·exact .inl hk
     ·exact .inr hk)
    exact ⟨z,by simp [Xa],hc⟩
  ·split
   ·rename_i hd
    have:=tighter_cov hd;rcases hk with hk|rfl
    ·rcases List.mem_cons.1 hk with rfl|hk
     ·exact ⟨_,Sz,this.1⟩
     ·exact ⟨k,by simp [hk],JN k⟩
    ·exact ⟨_,Sz,this.2⟩
   ·rcases hk with hk|rfl
    ·exact ⟨k,by simp [List.mem_cons.1 hk],JN k⟩
    ·exact ⟨k,Sz,JN k⟩
theorem ins_len:∀ (l:List Half) (h:Half),(Ju l h).length<=l.length+1
 | [],h=>by simp [Ju]
 | y :: r,h=>by
  unfold Ju;have:=ins_len r h;split
  ·simp only [List.length_cons];omega
  ·split<;>simp
structure GCanon (hs l:List Half):Prop where
 sorted:K9 l
 mem:∀ x∈l,x∈hs
 cov:∀ h∈hs,∃ x∈l,GCov x h
theorem tight_go:∀ (hs l:List Half) (pre:List Half),(∀ h∈hs,KH h)->(∀ h∈pre,KH h)->GCanon pre l->GCanon (pre++hs) (hs.foldl Ju l)
 | [],l,pre,_,_,c=>by simpa using c
 | h :: r,l,pre,n1,n2,c=>by
  have nh:=n1 h Sz;have nl:∀ x∈l,KH x:=λ x hx=>n2 x (c.mem x hx);have c2:GCanon (pre++[h]) (Ju l h):=by
   refine ⟨ins_sorted nl nh c.sorted,λ x hx=>?_,λ k hk=>?_⟩
   ·rcases ins_mem hx with hx|rfl
    ·simp [c.mem x hx]
    ·simp
   ·rcases List.mem_append.1 hk with hk|hk
    ·obtain ⟨x,hx,hc⟩:=c.cov k hk;obtain ⟨y,hy,hc2⟩:=ins_cov nl nh x (.inl hx);exact ⟨y,hy,cov_trans (by rcases ins_mem hy with hy|rfl;exact nl y hy;exact nh) (nl x hx) (n2 k hk) hc2 hc⟩
    ·obtain rfl:k=h:=by simpa using hk
     exact ins_cov nl nh k (.inr rfl)
  have:=tight_go r (Ju l h) (pre++[h]) (λ x hx=>n1 x (by simp [hx])) (by
   intro x hx;rcases List.mem_append.1 hx with hx|hx
   ·exact n2 x hx
   ·obtain rfl:x=h:=by simpa using hx
    exact nh) c2
  simpa using this
theorem Zk {hs:List Half} (n:∀ h∈hs,KH h):GCanon hs (Y8 hs):=by
 have:=tight_go hs [] [] n Sz ⟨List.Pairwise.nil,Sz,Sz⟩;simpa [Y8] using this
theorem tight_len (hs:List Half):(Y8 hs).length<=hs.length:=by
 have:∀ (hs l:List Half),(hs.foldl Ju l).length<=l.length+hs.length:=by
  intro hs;induction hs with
  | nil=>intro l;simp
  | cons h r ih =>
   intro l;have:=ih (Ju l h);have:=ins_len l h;simp only [List.foldl_cons,List.length_cons];omega
 simpa [Y8] using this hs []
theorem gpair_ne {α:Type} {R:α->α->Prop}:∀ {l:List α},l.Pairwise R->∀ {u v},u∈l->v∈l->u≠v->R u v∨R v u
 | [],_,_,_,h,_,_=>by cases h
 | x :: l,p,u,v,hu,hv,hne=>by
  have p':=List.pairwise_cons.1 p;rcases List.mem_cons.1 hu with e1|hu
  ·rcases List.mem_cons.1 hv with e2|hv
   ·exact absurd (e1.trans e2.symm) hne
   ·rw [e1];exact .inl (p'.1 v hv)
  ·rcases List.mem_cons.1 hv with e2|hv
   ·rw [e2];exact .inr (p'.1 u hu)
   ·exact gpair_ne p'.2 hu hv hne
theorem bef_not_same {u v:Half} (nu:KH u) (nv:KH v) (h:ZU u v=true):Yo u v=false:=by
 cases e:Yo u v
 ·rfl
 ·rw [(same_bef nu nv e v).1,bef_irr] at h;cases h
theorem K9.same {l:List Half} (s:K9 l) (n:∀ h∈l,KH h) {u v:Half} (hu:u∈l) (hv:v∈l) (h:Yo u v=true):u=v:=by
 rcases Classical.em (u=v) with e|e
 ·exact e
 ·rcases gpair_ne s hu hv e with h1|h1
  ·have:=bef_not_same (n u hu) (n v hv) h1;rw [h] at this;cases this
  ·have:=bef_not_same (n v hv) (n u hu) h1;rw [same_symm h] at this;cases this
theorem gsorted_ext:∀ {l m:List Half},K9 l->K9 m->(∀ x,x∈l ↔ x∈m)->l=m
 | [],[],_,_,_=>rfl
 | [],y :: m,_,_,h=>by have:=(h y).2 Sz;cases this
 | x :: l,[],_,_,h=>by have:=(h x).1 Sz;cases this
 | x :: l,y :: m,s,t,h=>by
  have s':=List.pairwise_cons.1 s;have t':=List.pairwise_cons.1 t;have e:x=y:=by
   rcases List.mem_cons.1 ((h x).1 Sz) with e|e
   ·exact e
   ·rcases List.mem_cons.1 ((h y).2 Sz) with e2|e2
    ·exact e2.symm
    ·have h1:=t'.1 x e;have h2:=s'.1 y e2;rw [bef_asymm h1] at h2;cases h2
  subst e;congr 1
  refine gsorted_ext s'.2 t'.2 λ z=>⟨λ Xa=>?_,λ Xa=>?_⟩
  ·rcases List.mem_cons.1 ((h z).1 (by simp [Xa])) with e|e
   ·subst e;have:=s'.1 z Xa;rw [bef_irr] at this;cases this
   ·exact e
  ·rcases List.mem_cons.1 ((h z).2 (by simp [Xa])) with e|e
   ·subst e;have:=t'.1 z Xa;rw [bef_irr] at this;cases this
   ·exact e
structure ZQ (l:List Half):Prop where
 sorted:K9 l
 nz:∀ h∈l,KH h
 e:∃ x∈l,GCov x ⟨1,0,1000⟩
 n:∃ x∈l,GCov x ⟨0,1,1000⟩
 w:∃ x∈l,GCov x ⟨-1,0,1000⟩
 s:∃ x∈l,GCov x ⟨0,-1,1000⟩
def ZZ:List Half:=[⟨1,0,1000⟩,⟨0,1,1000⟩,⟨-1,0,1000⟩,⟨0,-1,1000⟩]
theorem good_tight {hs:List Half} (n:∀ h∈hs,KH h) (f:∀ h∈ZZ,h∈hs):ZQ (Y8 hs):=by
 have c:=Zk n;refine ⟨c.sorted,λ h hh=>n h (c.mem h hh),c.cov _ (f _ ?_),c.cov _ (f _ ?_),c.cov _ (f _ ?_),c.cov _ (f _ ?_)⟩<;>simp [ZZ]
theorem cov_e {x:Half} (_:KH x) (c:GCov x ⟨1,0,1000⟩):x.b=0/\0<x.a/\x.c<=1000*x.a:=by
 obtain ⟨c1,c2⟩:=c;obtain ⟨c3,c4⟩:=Kq.1 c1;have hb:x.b=0:=by simp [XC] at c3;omega
 have c4':Z0 x=true:=by rw [c4];decide
 rw [ZW] at c4';have ha:0<x.a:=Oz
 have e:X5 x=x.a:=by unfold X5;rw [if_neg Oz];omega
 have e2:X5 ⟨1,0,1000⟩=1:=Dz
 rw [e,e2] at c2;simp only at c2;exact ⟨hb,ha,Oz⟩
theorem cov_w {x:Half} (n:KH x) (c:GCov x ⟨-1,0,1000⟩):x.b=0/\x.a<0/\x.c<=1000 * -x.a:=by
 obtain ⟨c1,c2⟩:=c;obtain ⟨c3,c4⟩:=Kq.1 c1;have hb:x.b=0:=by simp [XC] at c3;omega
 have c4':Z0 x=false:=by rw [c4];decide
 rw [lower_iff n] at c4';have ha:x.a<0:=Oz
 have e:X5 x = -x.a:=by unfold X5;rw [if_neg Oz];omega
 have e2:X5 ⟨-1,0,1000⟩=1:=Dz
 rw [e,e2] at c2;simp only at c2;exact ⟨hb,ha,Oz⟩
theorem cov_n {x:Half} (_:KH x) (c:GCov x ⟨0,1,1000⟩):x.a=0/\0<x.b/\x.c<=1000*x.b:=by
 obtain ⟨c1,c2⟩:=c;obtain ⟨c3,c4⟩:=Kq.1 c1;have hb:x.a=0:=by simp [XC] at c3;omega
 have c4':Z0 x=true:=by rw [c4];decide
 rw [ZW] at c4';have ha:0<x.b:=Oz
 have e:X5 x=x.b:=by unfold X5;rw [if_pos hb];omega
 have e2:X5 ⟨0,1,1000⟩=1:=Dz
 rw [e,e2] at c2;simp only at c2;exact ⟨hb,ha,Oz⟩
theorem cov_s {x:Half} (n:KH x) (c:GCov x ⟨0,-1,1000⟩):x.a=0/\x.b<0/\x.c<=1000 * -x.b:=by
 obtain ⟨c1,c2⟩:=c;obtain ⟨c3,c4⟩:=Kq.1 c1;have hb:x.a=0:=by simp [XC] at c3;omega
 have c4':Z0 x=false:=by rw [c4];decide
 rw [lower_iff n] at c4';have ha:x.b<0:=Oz
 have e:X5 x = -x.b:=by unfold X5;rw [if_pos hb];omega
 have e2:X5 ⟨0,-1,1000⟩=1:=Dz
 rw [e,e2] at c2;simp only at c2;exact ⟨hb,ha,Oz⟩
theorem ZQ.around {l:List Half} (g:ZQ l) {h:Half} (n:KH h):(∃ x∈l,0<XC h x)/\(∃ x∈l,XC h x<0):=by
 obtain ⟨e,he,ce⟩:=g.e;obtain ⟨no,hn,cn⟩:=g.n;obtain ⟨w,hw,cw⟩:=g.w;obtain ⟨s,hs,cs⟩:=g.s;obtain ⟨e1,e2,_⟩:=cov_e (g.nz e he) ce;obtain ⟨n1,n2,_⟩:=cov_n (g.nz no hn) cn;obtain ⟨w1,w2,_⟩:=cov_w (g.nz w hw) cw;obtain ⟨s1,s2,_⟩:=cov_s (g.nz s hs) cs;have xe:XC h e = -(h.b*e.a):=by simp only [XC,e1];grind
 have xw:XC h w = -(h.b*w.a):=by simp only [XC,w1];grind
 have xn:XC h no=h.a*no.b:=by simp only [XC,n1];grind
 have xs:XC h s=h.a*s.b:=by simp only [XC,s1];grind
 unfold KH at n;rcases Int.lt_trichotomy h.a 0 with ha|ha|ha
 ·refine ⟨⟨s,hs, ?_⟩,⟨no,hn, ?_⟩⟩
  ·rw [xs];exact Int.mul_pos_of_neg_of_neg ha s2
  ·rw [xn];exact Int.mul_neg_of_neg_of_pos ha n2
 ·rcases Int.lt_or_gt_of_ne (show h.b≠0 by omega) with hb|hb
  ·refine ⟨⟨e,he, ?_⟩,⟨w,hw, ?_⟩⟩
   ·rw [xe];have:=Int.mul_neg_of_neg_of_pos hb e2;omega
   ·rw [xw];have:=Int.mul_pos_of_neg_of_neg hb w2;omega
  ·refine ⟨⟨w,hw, ?_⟩,⟨e,he, ?_⟩⟩
   ·rw [xw];have:=Int.mul_neg_of_pos_of_neg hb w2;omega
   ·rw [xe];have:=Int.mul_pos hb e2;omega
 ·refine ⟨⟨no,hn, ?_⟩,⟨s,hs, ?_⟩⟩
  ·rw [xn];exact Int.mul_pos ha n2
  ·rw [xs];exact Int.mul_neg_of_pos_of_neg ha s2
theorem ZQ.frame {l:List Half} (g:ZQ l) {x y d:Int} (h:∀ f∈l,f.a*x+f.b*y<=f.c*d) (hd:0<=d):(-1000*d<=x/\x<=1000*d)/\(-1000*d<=y/\y<=1000*d):=by
 have key:∀ {m c z:Int},0<m->c<=1000*m->m*z<=c*d->z<=1000*d:=by
  intro m c z hm hc Xa;have h1:=Int.mul_le_mul_of_nonneg_right hc hd;have e:m*(1000*d-z)=1000*m*d-m*z:=by grind
  have:=gmn (a:=m) (b:=1000*d-z) (by rw [e];omega) hm;omega
 obtain ⟨e,he,ce⟩:=g.e;obtain ⟨no,hn,cn⟩:=g.n;obtain ⟨w,hw,cw⟩:=g.w;obtain ⟨s,hs,cs⟩:=g.s;obtain ⟨e1,e2,e3⟩:=cov_e (g.nz e he) ce;obtain ⟨n1,n2,n3⟩:=cov_n (g.nz no hn) cn;obtain ⟨w1,w2,w3⟩:=cov_w (g.nz w hw) cw;obtain ⟨s1,s2,s3⟩:=cov_s (g.nz s hs) cs;have h1:=h e he;have h2:=h no hn;have h3:=h w hw;have h4:=h s hs;rw [e1,Int.zero_mul,Int.add_zero] at h1;rw [n1,Int.zero_mul,Int.zero_add] at h2;rw [w1,Int.zero_mul,Int.add_zero] at h3;rw [s1,Int.zero_mul,Int.zero_add] at h4;have k1:=key e2 e3 h1;have k2:=key n2 n3 h2;have k3:=key (m:=-w.a) (z:=-x) Oz w3 (by rw [Int.neg_mul_neg];exact h3);have k4:=key (m:=-s.b) (z:=-y) Oz s3 (by rw [Int.neg_mul_neg];exact h4);omega
def GVoid (l:List Half):Prop:=∃ u∈l,∃ v∈l,u≠v/\XC u v=0/\¬ 0<u.c*X5 v+v.c*X5 u
theorem ZQ.opp {l:List Half} (g:ZQ l) {u v:Half} (hu:u∈l) (hv:v∈l) (hne:u≠v) (hx:XC u v=0):Z0 u≠Z0 v/\u.a*X5 v = -(v.a*X5 u)/\u.b*X5 v = -(v.b*X5 u):=by
 rcases hpar (g.nz u hu) (g.nz v hv) hx with h|h
 ·exact absurd (g.sorted.same g.nz hu hv (Kq.2 ⟨hx,h.1⟩)) hne
 ·exact h
theorem opp_det {u v:Half} (h1:u.a*X5 v = -(v.a*X5 u)) (h2:u.b*X5 v = -(v.b*X5 u)) (h g:Half) :
 X5 v*Za h g u+X5 u*Za h g v=(u.c*X5 v+v.c*X5 u)*XC h g:=by
 simp only [Za,XC];grind
theorem opp_crs {u v:Half} (h1:u.a*X5 v = -(v.a*X5 u)) (h2:u.b*X5 v = -(v.b*X5 u)) (h:Half) :
 X5 v*XC h u+X5 u*XC h v=0:=by
 simp only [XC];grind
theorem ZQ.nv {l:List Half} (g:ZQ l) (hn:¬GVoid l):GNV XC Za l:=by
 intro u hu v hv h0 hne k hk;obtain ⟨_,h1,h2⟩:=g.opp hu hv hne h0;have hs:=YW (g.nz u hu);have hr:0<u.c*X5 v+v.c*X5 u:=by
  rcases Classical.em (0<u.c*X5 v+v.c*X5 u) with h|h
  ·exact h
  ·exact absurd ⟨u,hu,v,hv,hne,h0,h⟩ hn
 have id:=opp_det h1 h2 u k;rw [gom.d0 u k,Int.mul_zero,Int.zero_add] at id;have sq:0<XC u k*XC u k:=by
  rcases Int.lt_or_gt_of_ne hk with h|h
  ·exact Int.mul_pos_of_neg_of_neg h h
  ·exact Int.mul_pos h h
 have:=Int.mul_pos hr sq;have e:X5 u*(XC u k*Za u k v)=(u.c*X5 v+v.c*X5 u)*(XC u k*XC u k):=by
  have:=congrArg (λ z=>z*XC u k) id;grind
 exact gmp (by rw [e];exact this) hs
theorem ZQ.void {l:List Half} (g:ZQ l) (hv:GVoid l):∃ u v:Half,∀ h∈l,GES XC Za l h->h=u∨h=v:=by
 obtain ⟨u,hu,v,hv,hne,h0,hr⟩:=hv;obtain ⟨Z0,h1,h2⟩:=g.opp hu hv hne h0;refine ⟨u,v,λ h hh es=>?_⟩;have su:=YW (g.nz u hu);have sv:=YW (g.nz v hv);have hx:=ES_void gom hu hv sv su (λ h k _ _=>by
  rw [opp_det h1 h2];have:0<=XC h k*XC h k:=by
   rcases Int.le_total 0 (XC h k) with h|h
   ·exact Int.mul_nonneg h h
   ·exact Int.mul_nonneg_of_nonpos_of_nonpos h h
  have e:XC h k*((u.c*X5 v+v.c*X5 u)*XC h k)=(XC h k*XC h k)*(u.c*X5 v+v.c*X5 u):=by grind
  rw [e];exact Int.mul_nonpos_of_nonneg_of_nonpos this Oz) es
 by_cases e:h=u
 ·exact .inl e
 ·right;have hp:=(g.opp hh hu e hx).1;have hx2:XC h v=0:=by
   have:=opp_crs h1 h2 h;rw [hx,Int.mul_zero,Int.zero_add] at this;exact gmz this Oz
  refine g.sorted.same g.nz hh hv (Kq.2 ⟨hx2, ?_⟩);revert hp Z0;generalize Z0 h=a;generalize Z0 u=b;generalize Z0 v=c;revert a b c;decide
theorem gtwo_len {α:Type} [DecidableEq α] {l:List α} (n:l.Nodup) {u v:α} (h:∀ x∈l,x=u∨x=v):l.length<3:=by
 match l,n,h with
 | [],_,_=>simp
 | [_],_,_=>simp
 | [_,_],_,_=>simp
 | a :: b :: c :: r,n,h =>
  exfalso;simp only [List.nodup_cons,List.mem_cons,not_or] at n;have h1:=h a Sz;have h2:=h b Sz;have h3:=h c Sz;obtain ⟨⟨n1,n2,_⟩,⟨n3,_⟩,_⟩:=n;rcases h1 with rfl|rfl<;>rcases h2 with rfl|rfl<;>rcases h3 with rfl|rfl<;>simp_all
theorem gthree_len {α:Type} {l:List α} {a b c:α} (ha:a∈l) (hb:b∈l) (hc:c∈l) (h1:a≠b) (h2:a≠c) (h3:b≠c):3<=l.length:=by
 match l,ha,hb,hc with
 | [],ha,_,_=>cases ha
 | [x],ha,hb,_=>simp at ha hb;exact absurd (ha.trans hb.symm) h1
 | [x,y],ha,hb,hc =>
  exfalso;simp at ha hb hc;rcases ha with rfl|rfl<;>rcases hb with rfl|rfl<;>rcases hc with rfl|rfl<;>simp_all
 | _ :: _ :: _ :: _,_,_,_=>simp
theorem K9.nodup {l:List Half} (s:K9 l):l.Nodup:=by
 refine List.Pairwise.imp ?_ s;intro a b h e;subst e;rw [bef_irr] at h;cases h
theorem ZQ.edges {l:List Half} (g:ZQ l) (hn:¬GVoid l):(∀ h∈l,Zz XC Za l h ↔ GES XC Za l h)/\∀ p:Half->Bool,(∀ h∈l,p h=true ↔ Zz XC Za l h)->(l.filter p=[]∨3<=(l.filter p).length):=by
 have nv:=g.nv hn;refine ⟨λ h hh=>⟨λ e=>?_,λ e=>edge_of_ES gom e⟩,λ p hp=>?_⟩
 ·have a:=g.around (g.nz h hh);exact ES_of_edge gom nv hh e a.1 a.2
 ·rcases hl:l.filter p with _|⟨h,r⟩
  ·exact .inl rfl
  ·right;rw [<- hl];have hm:h∈l.filter p:=by rw [hl];simp
   obtain ⟨hh,hph⟩:=List.mem_filter.1 hm;have e:=(hp h hh).1 hph;have a:=g.around (g.nz h hh);obtain ⟨x,hx,x1,_,_,x2⟩:=gnext gom nv hh e a.1;obtain ⟨y,hy,y1,_,y2⟩:=gprev gom nv hh e a.2;refine gthree_len hm (List.mem_filter.2 ⟨hx,(hp x hx).2 x2⟩) (List.mem_filter.2 ⟨hy,(hp y hy).2 y2⟩) ?_ ?_ ?_
   ·rintro rfl;rw [gom.x0] at x1;omega
   ·rintro rfl;rw [gom.x0] at y1;omega
   ·rintro rfl;omega
theorem ZQ.void_len {l:List Half} (g:ZQ l) (hv:GVoid l) (p:Half->Bool) (hp:∀ h∈l,p h=true->GES XC Za l h):(l.filter p).length<3:=by
 obtain ⟨u,v,h⟩:=g.void hv;refine gtwo_len (u:=u) (v:=v) (g.sorted.nodup.filter p) (λ x hx=>?_);obtain ⟨h1,h2⟩:=List.mem_filter.1 hx;exact h x h1 (hp x h1 h2)
end Go.Proofs.YtbekjpkcicjcgaaGreat
