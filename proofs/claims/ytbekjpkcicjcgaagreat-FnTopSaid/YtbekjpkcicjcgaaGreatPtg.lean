/-
 Grown regions, regions pulled back and the region before a step, as sets of points.
 Conditions: valid rooms and regions; the first part of the drive is positive.
-/
import Derived.Test.YtbekjpkcicjcgaaGreatGrXb
namespace Go.Proofs.YtbekjpkcicjcgaaGreat
open Go.RowKit
theorem max_frac:∀ (l:List (Int × Int)),l≠[]->(∀ f∈l,0<f.2)->∃ f∈l,∀ g∈l,g.1*f.2<=f.1*g.2
 | [],h,_=>absurd rfl h
 | [a],_,_=>⟨a,List.mem_singleton.2 rfl,λ g hg=>by rw [List.mem_singleton.1 hg];exact Int.le_refl _⟩
 | a :: b :: l,_,hp=>by
  obtain ⟨f,hf,hm⟩:=max_frac (b :: l) Sz (λ g hg=>hp g (List.mem_cons_of_mem _ hg));have pa:=hp a (List.mem_cons_self ..);have pf:=hp f (List.mem_cons_of_mem _ hf);by_cases h:a.1*f.2<=f.1*a.2
  ·refine ⟨f,List.mem_cons_of_mem _ hf,λ g hg=>?_⟩;rcases List.mem_cons.1 hg with rfl|hg
   ·exact h
   ·exact hm g hg
  ·refine ⟨a,List.mem_cons_self ..,λ g hg=>?_⟩;rcases List.mem_cons.1 hg with rfl|hg
   ·exact Int.le_refl _
   ·have pg:=hp g (List.mem_cons_of_mem _ hg);exact Ko (a:=g.1) (b:=g.2) (c:=f.1) (d:=f.2) (e:=a.1) (f:=a.2) pf Oz Oz (hm g hg) Oz
theorem fm_half {al be A B M b0 c x y d sx sy sd:Int} (hb0:0<b0) (hc:0<=c) (ea:c*al=b0*A) (eb:c*be=b0*B) (hsd:0<sd) (hd:0<=d) (h1:(al*x+be*y)*sd<=(al*sx+be*sy)*d) (h2:A*sx+B*sy<=M*sd):A*x+B*y<=M*d:=by
 refine JS (k:=b0*sd) (Int.mul_pos hb0 hsd) ?_;have m1:=Int.mul_le_mul_of_nonneg_left h1 hc;have m2:=Int.mul_le_mul_of_nonneg_left h2 (show 0<=b0*d from Int.mul_nonneg Oz hd);have e1:(A*x+B*y)*(b0*sd)=c*((al*x+be*y)*sd):=by
  have:(A*x+B*y)*(b0*sd)=(b0*A*x+b0*B*y)*sd:=by grind
  rw [this,<- ea,<- eb];grind
 have e2:c*((al*sx+be*sy)*d)=b0*d*(A*sx+B*sy):=by
  have:b0*d*(A*sx+B*sy)=(b0*A*sx+b0*B*sy)*d:=by grind
  rw [this,<- ea,<- eb];grind
 have e3:b0*d*(M*sd)=M*d*(b0*sd):=by grind
 omega
theorem dir_eq {bx by_:Int} (D:DirIn bx by_):∃ g:Int,1<=g/\g*Zh bx by_ = -by_/\g*Zf bx by_=bx:=by
 have h:=dirOk D;have hg:Xn [bx,by_]=Nat.gcd bx.natAbs by_.natAbs:=by rw [Jp]
 refine ⟨((Xn [bx,by_]:Nat):Int),h.g.1, ?_, ?_⟩
 ·exact Int.mul_tdiv_cancel' (show ((Xn [bx,by_]:Nat):Int) ∣ -by_ from Int.ofNat_dvd_left.2 (by rw [hg,Int.natAbs_neg];exact Nat.gcd_dvd_right _ _))
 ·exact Int.mul_tdiv_cancel' (show ((Xn [bx,by_]:Nat):Int) ∣ bx from Int.ofNat_dvd_left.2 (by rw [hg];exact Nat.gcd_dvd_left _ _))
def GP (bx by_ lo hi:Int) (E:List Half) (x y d:Int):Prop:=∃ m e:Int,0<e/\lo*e<=m/\m<=hi*e/\InP E (x*e+bx*m*d) (y*e+by_*m*d) (d*e)
def SdP (E:List Half) (a b x y d:Int):Prop:=(a*x+b*y)*(ZS E a b).d<=(ZS E a b).n*d
structure GrwP (bx by_ lo hi:Int) (E:List Half) (x y d:Int):Prop where
 l:SdP E (Zh bx by_) (Zf bx by_) x y d
 r:SdP E (-Zh bx by_) (-Zf bx by_) x y d
 h:∀ h∈E,h.a*x+h.b*y<=(h.c+max (-lo*(h.a*bx+h.b*by_)) (-hi*(h.a*bx+h.b*by_)))*d
theorem sd_pts {E:List Half} {a b:Int} {g:Half} (h:Jb E a b=some g) {x y d:Int}:YJ g x y d ↔ SdP E a b x y d:=by
 unfold Jb at h;unfold SdP;rw [halfOf_pts h,Int.add_mul,Int.mul_right_comm a,Int.mul_right_comm b]
theorem grwL_pts {bx by_ lo hi:Int} {E:List Half} (hs:sdO E (Zh bx by_) (Zf bx by_)=true) (hm:Zj (Yl bx by_ lo hi) E=true):(∀ h∈grwL bx by_ lo hi E,Xs h=true)/\∀ x y d,InP (grwL bx by_ lo hi E) x y d ↔ GrwP bx by_ lo hi E x y d:=by
 constructor
 ·intro h hh;unfold grwL at hh;rcases List.mem_append.1 hh with hh|hh
  ·exact sdL_ok hs h hh
  ·exact movL_ok (λ _ _ _ e=>growH_ok e) hm h hh
 ·intro x y d;unfold grwL;rw [inP_app];unfold sdO at hs;rw [Bool.and_eq_true] at hs;obtain ⟨g1,e1⟩:=Option.isSome_iff_exists.1 hs.1;obtain ⟨g2,e2⟩:=Option.isSome_iff_exists.1 hs.2;have hL:InP (sdL E (Zh bx by_) (Zf bx by_)) x y d ↔ YJ g1 x y d/\YJ g2 x y d:=by
   unfold sdL;rw [e1,e2];constructor
   ·intro h;exact ⟨h g1 Sz,h g2 Sz⟩
   ·rintro ⟨h1,h2⟩ h hh;simp only [Option.getD_some,List.mem_cons,List.not_mem_nil,or_false] at hh;rcases hh with rfl|rfl
    ·exact h1
    ·exact h2
  rw [hL,sd_pts e1,sd_pts e2];have hG:InP (Ks (Yl bx by_ lo hi) E) x y d ↔ ∀ h∈E,h.a*x+h.b*y<=(h.c+max (-lo*(h.a*bx+h.b*by_)) (-hi*(h.a*bx+h.b*by_)))*d:=by
   have ha:=hm;unfold Zj at ha;rw [List.all_eq_true] at ha;constructor
   ·intro h k hk;obtain ⟨g,eg⟩:=Option.isSome_iff_exists.1 (ha k hk);have:=h g ((movL_mem hm).2 ⟨k,hk,eg⟩);unfold Yl at eg;exact (halfOf_pts eg).1 this
   ·intro h g hg;obtain ⟨k,hk,eg⟩:=(movL_mem hm).1 hg;unfold Yl at eg;exact (halfOf_pts eg).2 (h k hk)
  rw [hG];exact ⟨λ h=>⟨h.1.1,h.1.2,h.2⟩,λ h=>⟨⟨h.l,h.r⟩,h.h⟩⟩
theorem growT_no {E:List Half} {bx by_:Int} (hb:0<bx) (hE:E≠[]):growT E bx by_=false:=by
 unfold growT;rw [decide_eq_false (λ e=>hE (List.length_eq_zero_iff.1 e)),Bool.false_or,show (bx == 0)=false by simp;omega];rfl
theorem grw_pts {bx by_ lo hi:Int} {E:List Half} (hb:0<bx) (hne:grwR bx by_ lo hi E≠[]):E≠[]/\∀ {x y d:Int},0<=d->(InP (grwR bx by_ lo hi E) x y d ↔ InP Yx x y d/\GrwP bx by_ lo hi E x y d):=by
 have hE0:E≠[]:=by
  rintro rfl;exact hne (grow_triv (by unfold growT;simp)).2
 have ht:=growT_no (by_:=by_) hb hE0;refine ⟨hE0, ?_⟩;cases hs:sdO E (Zh bx by_) (Zf bx by_) with
 | false=>exact absurd (grow_side ht hs).2 hne
 | true =>
  cases hm:Zj (Yl bx by_ lo hi) E with
  | false=>exact absurd (grow_stop ht hm).2 hne
  | true =>
   obtain ⟨_,e⟩:=grow_all ht hs hm;obtain ⟨hok,hi'⟩:=grwL_pts hs hm;intro x y d hd;rw [e] at hne ⊢;rw [meetR_pts hok hne hd,hi']
theorem max_pos {lo hi n:Int} (h:lo<=hi) (hn:0<=n):max (-lo*n) (-hi*n) = -lo*n:=by
 have:=Int.mul_le_mul_of_nonneg_right h hn;rw [Int.neg_mul,Int.neg_mul];omega
theorem max_neg {lo hi n:Int} (h:lo<=hi) (hn:n<=0):max (-lo*n) (-hi*n) = -hi*n:=by
 have:=Int.mul_le_mul_of_nonpos_right h hn;rw [Int.neg_mul,Int.neg_mul];omega
theorem sup_cross {E:List Half} (hE:Xc E=true) (hne:E≠[]) {a b:Int} (ha : -100<=a/\a<=100) (hb : -100<=b/\b<=100) {x y d:Int} (s:SdP E a b x y d):∃ t∈Xj E,(a*x+b*y)*t.d<=(a*t.x+b*t.y)*d:=by
 have A : -50000<=a/\a<=50000:=⟨Oz,Oz⟩;have B : -50000<=b/\b<=50000:=⟨Oz,Oz⟩;obtain ⟨t,ht,et⟩:=sup_at hE hne A B;have D:=(supR hE hne A B).d;have td:=Jy (corner_in hE ht).2;refine ⟨t,ht, ?_⟩;unfold SdP at s;generalize (ZS E a b).d=dd at *;generalize (ZS E a b).n=nn at *;refine JS (k:=dd) Oz ?_;have m:=Int.mul_le_mul_of_nonneg_right s (show 0<=t.d by omega);have e1:(a*x+b*y)*t.d*dd=(a*x+b*y)*dd*t.d:=by grind
 have e2:(a*t.x+b*t.y)*d*dd=(a*t.x+b*t.y)*dd*d:=by grind
 have e3:nn*d*t.d=nn*t.d*d:=by grind
 rw [e1,e2,<- et,<- e3];exact m
theorem fm_pair {E:List Half} (hE:Xc E=true) (hne:E≠[]) {bx by_:Int} (D:DirIn bx by_) (hx:0<bx) {h k:Half} (hh:h∈E) (hk:k∈E) {p q:Int} (hp:p=h.a*bx+h.b*by_) (hq:q=k.a*bx+k.b*by_) (n1:p<0) (n2:0<q) {x y d:Int} (hd:0<d)
 (s1:SdP E (Zh bx by_) (Zf bx by_) x y d) (s2:SdP E (-Zh bx by_) (-Zf bx by_) x y d):q*(h.a*x+h.b*y) + -p*(k.a*x+k.b*y)<=(q*h.c + -p*k.c)*d:=by
 obtain ⟨g,g1,ga,gb⟩:=dir_eq D;have O:=dirOk D;have hA:(q*h.a + -p*k.a)*bx = -((q*h.b + -p*k.b)*by_):=by rw [hp,hq];grind
 have hb:0<Zf bx by_:=gmp (a:=g) (by rw [gb];exact hx) Oz;have hAB:(q*h.b + -p*k.b)*Zh bx by_=Zf bx by_*(q*h.a + -p*k.a):=by
  have:g*((q*h.b + -p*k.b)*Zh bx by_)=g*(Zf bx by_*(q*h.a + -p*k.a)):=by
   have e1:g*((q*h.b + -p*k.b)*Zh bx by_)=(q*h.b + -p*k.b)*(g*Zh bx by_):=by grind
   have e2:g*(Zf bx by_*(q*h.a + -p*k.a))=(q*h.a + -p*k.a)*(g*Zf bx by_):=by grind
   rw [e1,e2,ga,gb,hA];grind
  exact Int.eq_of_mul_eq_mul_left Oz this
 have e:q*(h.a*x+h.b*y) + -p*(k.a*x+k.b*y)=(q*h.a + -p*k.a)*x+(q*h.b + -p*k.b)*y:=by grind
 rw [e];have corner:∀ t∈Xj E,(q*h.a + -p*k.a)*t.x+(q*h.b + -p*k.b)*t.y<=(q*h.c + -p*k.c)*t.d:=by
  intro t ht;have i:=(corner_in hE ht).1;have m1:=Int.mul_le_mul_of_nonneg_left (i h hh) (show 0<=q by omega);have m2:=Int.mul_le_mul_of_nonneg_left (i k hk) (show 0<=-p by omega);have e1:(q*h.a + -p*k.a)*t.x+(q*h.b + -p*k.b)*t.y=q*(h.a*t.x+h.b*t.y) + -p*(k.a*t.x+k.b*t.y):=by grind
  have e2:(q*h.c + -p*k.c)*t.d=q*(h.c*t.d) + -p*(k.c*t.d):=by grind
  rw [e1,e2];omega
 rcases Int.lt_or_le (q*h.b + -p*k.b) 0 with hB|hB
 ·obtain ⟨t,ht,ht2⟩:=sup_cross hE hne (a:=-Zh bx by_) (b:=-Zf bx by_) ⟨by have:=O.a;omega,by have:=O.a;omega⟩ ⟨by have:=O.b;omega,by have:=O.b;omega⟩ s2;have td:=Jy (corner_in hE ht).2;exact fm_half (c:=-(q*h.b + -p*k.b)) hb Oz (by rw [Int.neg_mul_neg];exact hAB) (by rw [Int.neg_mul_neg,Int.mul_comm]) Oz Oz ht2 (corner t ht)
 ·obtain ⟨t,ht,ht2⟩:=sup_cross hE hne O.a O.b s1;have td:=Jy (corner_in hE ht).2;exact fm_half (c:=q*h.b + -p*k.b) hb hB hAB (by rw [Int.mul_comm]) Oz Oz ht2 (corner t ht)
theorem grw_to {bx by_ lo hi:Int} {E:List Half} (hE:Xc E=true) (hne:E≠[]) (D:DirIn bx by_) (hx:0<bx) (hlh:lo<=hi) {x y d:Int} (hd:0<d) (G:GrwP bx by_ lo hi E x y d):GP bx by_ lo hi E x y d:=by
 obtain ⟨s1,s2,hG⟩:=G;obtain ⟨f,hf,hm⟩:=max_frac ((lo,1) :: (E.filter (λ h=>decide (h.a*bx+h.b*by_<0))).map (λ h=>(h.a*x+h.b*y-h.c*d,-(h.a*bx+h.b*by_)*d))) Sz (by
  intro f hf;rcases List.mem_cons.1 hf with rfl|hf
  ·simp
  ·obtain ⟨h,hh,rfl⟩:=List.mem_map.1 hf;have:=of_decide_eq_true (List.mem_filter.1 hh).2;exact Int.mul_pos Oz hd)
 have lowIn:∀ h∈E,h.a*bx+h.b*by_<0->(h.a*x+h.b*y-h.c*d)*f.2<=f.1*(-(h.a*bx+h.b*by_)*d):=λ h hh hn=>hm (_,_) (List.mem_cons_of_mem _ (List.mem_map.2 ⟨h,List.mem_filter.2 ⟨hh,decide_eq_true hn⟩,rfl⟩));have low0:lo*f.2<=f.1*1:=hm (lo,1) (List.mem_cons_self ..);have cases_f:(f.1=lo/\f.2=1)∨∃ h∈E,h.a*bx+h.b*by_<0/\f.1=h.a*x+h.b*y-h.c*d/\f.2 = -(h.a*bx+h.b*by_)*d:=by
  rcases List.mem_cons.1 hf with rfl|hf
  ·exact .inl ⟨rfl,rfl⟩
  ·obtain ⟨h,hh,rfl⟩:=List.mem_map.1 hf;exact .inr ⟨h,(List.mem_filter.1 hh).1,of_decide_eq_true (List.mem_filter.1 hh).2,rfl,rfl⟩
 have fpos:0<f.2:=by
  rcases cases_f with ⟨_,h⟩|⟨h,_,hn,_,h2⟩
  ·omega
  ·rw [h2];exact Int.mul_pos Oz hd
 refine ⟨f.1,f.2,fpos,Oz, ?_, ?_⟩
 ·rcases cases_f with ⟨h1,h2⟩|⟨h,hh,hn,h1,h2⟩
  ·rw [h1,h2];omega
  ·have:=hG h hh;rw [max_neg hlh Oz] at this;rw [h1,h2];have e:(h.c + -hi*(h.a*bx+h.b*by_))*d=h.c*d+hi*(-(h.a*bx+h.b*by_)*d):=by grind
   omega
 ·intro k hk;unfold YJ;have e1:k.a*(x*f.2+bx*f.1*d)+k.b*(y*f.2+by_*f.1*d)=(k.a*x+k.b*y)*f.2+(k.a*bx+k.b*by_)*f.1*d:=by grind
  rw [e1];rcases Int.lt_trichotomy (k.a*bx+k.b*by_) 0 with hn|hn|hn
  ·have:=lowIn k hk hn;have e2:(k.a*x+k.b*y-k.c*d)*f.2=(k.a*x+k.b*y)*f.2-k.c*(d*f.2):=by grind
   have e3:f.1*(-(k.a*bx+k.b*by_)*d) = -((k.a*bx+k.b*by_)*f.1*d):=by grind
   omega
  ·have:=hG k hk;rw [hn] at this ⊢;rw [Int.mul_zero,Int.mul_zero,Int.max_self,Int.add_zero] at this;have m:=Int.mul_le_mul_of_nonneg_right this (show 0<=f.2 by omega);rw [Int.zero_mul,Int.zero_mul,Int.add_zero,<- Int.mul_assoc];exact m
  ·rcases cases_f with ⟨h1,h2⟩|⟨h,hh,hn',h1,h2⟩
   ·have:=hG k hk;rw [max_pos hlh Oz] at this;rw [h1,h2];have e2:(k.c + -lo*(k.a*bx+k.b*by_))*d=k.c*d-(k.a*bx+k.b*by_)*lo*d:=by grind
    rw [Int.mul_one,Int.mul_one];omega
   ·have:=fm_pair hE hne D hx hh hk rfl rfl hn' hn hd s1 s2;rw [h1,h2];generalize h.a*bx+h.b*by_=p at *;generalize k.a*bx+k.b*by_=q at *;have m:=Int.mul_le_mul_of_nonneg_right this (show 0<=d by omega);have e2:(k.a*x+k.b*y)*(-p*d)+q*(h.a*x+h.b*y-h.c*d)*d=(q*(h.a*x+h.b*y) + -p*(k.a*x+k.b*y))*d-q*h.c*d*d:=by grind
    have e3:k.c*(d*(-p*d))=(q*h.c + -p*k.c)*d*d-q*h.c*d*d:=by grind
    rw [e2,e3];omega
theorem grw_from {bx by_ lo hi:Int} {E:List Half} (hE:Xc E=true) (hne:E≠[]) (D:DirIn bx by_) {x y d:Int} (hd:0<d) (G:GP bx by_ lo hi E x y d):GrwP bx by_ lo hi E x y d:=by
 obtain ⟨m,e,he,h1,h2,hi'⟩:=G;obtain ⟨g,g1,ga,gb⟩:=dir_eq D;have O:=dirOk D;have hperp:Zh bx by_*bx+Zf bx by_*by_=0:=by
  have:g*(Zh bx by_*bx+Zf bx by_*by_)=g*0:=by
   have e1:g*(Zh bx by_*bx+Zf bx by_*by_)=(g*Zh bx by_)*bx+(g*Zf bx by_)*by_:=by grind
   rw [e1,ga,gb];grind
  exact Int.eq_of_mul_eq_mul_left Oz this
 have side:∀ {a b:Int},(-100<=a/\a<=100)->(-100<=b/\b<=100)->a*bx+b*by_=0->SdP E a b x y d:=by
  intro a b ha hb h0;have:=sup_ge hE hne (a:=a) (b:=b) ⟨Oz,Oz⟩ ⟨Oz,Oz⟩ (Int.mul_pos hd he) hi';unfold SdP;refine JS (k:=e) he ?_;have e1:(a*(x*e+bx*m*d)+b*(y*e+by_*m*d))*(ZS E a b).d=(a*x+b*y)*(ZS E a b).d*e+(a*bx+b*by_)*(m*d*(ZS E a b).d):=by grind
  rw [e1,h0,Int.zero_mul,Int.add_zero,<- Int.mul_assoc] at this;exact this
 refine ⟨side O.a O.b hperp,side ⟨by have:=O.a;omega,by have:=O.a;omega⟩ ⟨by have:=O.b;omega,by have:=O.b;omega⟩ (by rw [Int.neg_mul,Int.neg_mul];omega),λ k hk=>?_⟩;have h3:=hi' k hk;unfold YJ at h3;have e1:k.a*(x*e+bx*m*d)+k.b*(y*e+by_*m*d)=(k.a*x+k.b*y)*e+(k.a*bx+k.b*by_)*m*d:=by grind
 rw [e1] at h3;refine JS (k:=e) he ?_;have key : -((k.a*bx+k.b*by_)*m)<=max (-lo*(k.a*bx+k.b*by_)) (-hi*(k.a*bx+k.b*by_))*e:=by
  generalize k.a*bx+k.b*by_=n at *;rcases Int.lt_or_le n 0 with hn|hn
  ·have m1:=Int.mul_le_mul_of_nonneg_left h2 (show 0<=-n by omega);have m2:=Int.mul_le_mul_of_nonneg_right (show -hi*n<=max (-lo*n) (-hi*n) by omega) (show 0<=e by omega);have e2 : -n*(hi*e) = -hi*n*e:=by grind
   have e3 : -n*m = -(n*m):=Int.neg_mul n m;omega
  ·have m1:=Int.mul_le_mul_of_nonneg_left h1 hn;have m2:=Int.mul_le_mul_of_nonneg_right (show -lo*n<=max (-lo*n) (-hi*n) by omega) (show 0<=e by omega);have e2:n*(lo*e) = -(-lo*n*e):=by grind
   omega
 have m3:=Int.mul_le_mul_of_nonneg_right key (show 0<=d by omega);generalize max (-lo*(k.a*bx+k.b*by_)) (-hi*(k.a*bx+k.b*by_))=M at *;have e2:(k.c+M)*d*e=k.c*(d*e)+M*e*d:=by grind
 rw [e2];rw [Int.neg_mul] at m3;omega
def pX (r:XD) (x y:Int):Int:=r.map.getD 0 0*x+r.map.getD 1 0*y
def pY (r:XD) (x y:Int):Int:=r.map.getD 2 0*x+r.map.getD 3 0*y
theorem pul_pts {r:XD} {h g:Half} (e:Yv r.map r.div h=some g) {x y d:Int}:YJ g x y d ↔ YJ h (pX r x y) (pY r x y) (r.div*d):=by
 unfold Yv at e;rw [halfOf_pts e];unfold YJ pX pY;have e1:(h.a*r.map.getD 0 0+h.b*r.map.getD 2 0)*x+(h.a*r.map.getD 1 0+h.b*r.map.getD 3 0)*y=h.a*(r.map.getD 0 0*x+r.map.getD 1 0*y)+h.b*(r.map.getD 2 0*x+r.map.getD 3 0*y):=by grind
 rw [e1,Int.mul_assoc]
theorem room_dir {r:XD} (hr:XJ r=true) (hb:0<r.bx):DirIn r.bx r.by_:=⟨(JX hr).bx,(JX hr).by_,λ h=>Oz⟩
structure PreP (r:XD) (p:List Half):Prop where
 e:Z0 r p≠[]
 g:Z6 r p≠[]
 pts:∀ {x y d:Int},0<d->(InP (Yj r p) x y d ↔ InP Yx x y d/\InP Yx (pX r x y) (pY r x y) (r.div*d)/\GP r.bx r.by_ r.low r.high (Z0 r p) (pX r x y) (pY r x y) (r.div*d))
theorem pre_pts {r:XD} {p:List Half} (hr:XJ r=true) (hb:0<r.bx) (hne:Yj r p≠[]):PreP r p:=by
 have B:=JX hr;have D:=room_dir hr hb;unfold Yj at hne;split at hne
 ·rename_i hk
  have hg:=movR_pts (λ _ _ _ e=>pulH_ok e) hne;obtain ⟨hgn,ha,hi⟩:=hg;have hgn':grwR r.bx r.by_ r.low r.high (Z0 r p)≠[]:=hgn;obtain ⟨hen,hi2⟩:=grw_pts hb hgn';have hE:=preE_ok r p;refine ⟨hen,hgn,λ{x y d} hd=>?_⟩;have hq:0<r.div*d:=Int.mul_pos (by have:=B.div;omega) hd;have e:Yj r p=ZD (Yv r.map r.div) (Z6 r p):=by unfold Yj;rw [if_pos hk]
  rw [e,hi Oz];refine and_congr_right λ _=>?_;have h3:(∀ h∈Z6 r p,∀ g,Yv r.map r.div h=some g->YJ g x y d) ↔ InP (Z6 r p) (pX r x y) (pY r x y) (r.div*d):=by
   unfold Zj at ha;rw [List.all_eq_true] at ha;constructor
   ·intro h k hk;obtain ⟨g,eg⟩:=Option.isSome_iff_exists.1 (ha k hk);exact (pul_pts eg).1 (h k hk g eg)
   ·intro h k hk g eg;exact (pul_pts eg).2 (h k hk)
  rw [h3];show InP (grwR r.bx r.by_ r.low r.high (Z0 r p)) _ _ _ ↔ _;rw [hi2 Oz];refine and_congr_right λ _=>?_;exact ⟨λ h=>grw_to hE hen D hb B.high.1 hq h,λ h=>grw_from hE hen D hq h⟩
 ·exact absurd rfl hne
end Go.Proofs.YtbekjpkcicjcgaaGreat
