/-
 The search of the program for the two ends of an edge.
 Conditions: none.
-/
import Derived.Test.YtbekjpkcicjcgaaGreatGrB
import Derived.Test.YtbekjpkcicjcgaaGreatGrF
namespace Go.Proofs.YtbekjpkcicjcgaaGreat
open Go.RowKit
theorem gsgn_lt {x:Int}:sgn x<0 ↔ x<0:=by unfold sgn;split<;>(try split)<;>omega
theorem gsgn_ge {x:Int}:0<=sgn x ↔ 0<=x:=by unfold sgn;split<;>(try split)<;>omega
theorem gsgn_le {x:Int}:sgn x<=0 ↔ x<=0:=by unfold sgn;split<;>(try split)<;>omega
def JR (h g:Half):Int:=if XC h g<0 then -(h.c*g.b-g.c*h.b) else h.c*g.b-g.c*h.b
def JQ (h g:Half):Int:=if XC h g<0 then -(h.a*g.c-g.a*h.c) else h.a*g.c-g.a*h.c
def Z7 (h g:Half):Int:=if XC h g<0 then -XC h g else XC h g
def Ky (h g:Half):Int:=h.a*JQ h g-h.b*JR h g
def nn2 (h:Half):Int:=h.a*h.a+h.b*h.b
theorem nn2_pos {h:Half} (n:KH h):0<nn2 h:=by
 unfold nn2;have sq:∀ x:Int,0<=x*x/\(x≠0->0<x*x):=λ x=>by
  rcases Int.lt_trichotomy x 0 with h|h|h
  ·have:=Int.mul_pos_of_neg_of_neg h h;omega
  ·subst h;simp
  ·have:=Int.mul_pos h h;omega
 have h1:=sq h.a;have h2:=sq h.b;unfold KH at n;by_cases e:h.a=0
 ·have:=h2.2 Oz;omega
 ·have:=h1.2 e;omega
theorem KA {h g:Half} (e:XC h g≠0):0<Z7 h g:=by unfold Z7;split<;>omega
theorem crD_zero {h g:Half} (e:XC h g=0):Z7 h g=0:=by unfold Z7;rw [e];simp
theorem cr_on (h g:Half):h.a*JR h g+h.b*JQ h g=h.c*Z7 h g:=by
 unfold JR JQ Z7;split<;>(simp only [XC];grind)
theorem cr_in (h g f:Half):f.c*Z7 h g-(f.a*JR h g+f.b*JQ h g)=if XC h g<0 then -Za h g f else Za h g f:=by
 unfold JR JQ Z7;split<;>(simp only [XC,Za];grind)
theorem pos_cmp {h g k:Half} (h1:XC h g<0) (h2:0<XC h k):Ky h k*Z7 h g-Ky h g*Z7 h k=nn2 h*Za g h k:=by
 unfold Ky JR JQ Z7;rw [if_pos h1,if_pos h1,if_pos h1,if_neg Oz,if_neg Oz,if_neg Oz];simp only [nn2,Za,XC];grind
theorem pos_eq (h g k:Half):Ky h g*Z7 h k-Ky h k*Z7 h g=0 ↔ nn2 h*Za h g k=0:=by
 have id:(Ky h g*Z7 h k-Ky h k*Z7 h g=nn2 h*Za h g k)∨(Ky h g*Z7 h k-Ky h k*Z7 h g = -(nn2 h*Za h g k)):=by
  unfold Ky JR JQ Z7;by_cases h1:XC h g<0<;>by_cases h2:XC h k<0
  ·right;simp only [if_pos h1,if_pos h2];simp only [nn2,Za,XC];grind
  ·left;simp only [if_pos h1,if_neg h2];simp only [nn2,Za,XC];grind
  ·left;simp only [if_neg h1,if_pos h2];simp only [nn2,Za,XC];grind
  ·right;simp only [if_neg h1,if_neg h2];simp only [nn2,Za,XC];grind
 omega
theorem same_pt {h g k:Half} (n:KH h):Za h g k=0 ↔ (JR h g*Z7 h k=JR h k*Z7 h g/\JQ h g*Z7 h k=JQ h k*Z7 h g):=by
 have hp:=nn2_pos n;have e1:=cr_on h g;have e2:=cr_on h k;have hq:=pos_eq h g k;constructor
 ·intro hd;have h3:=hq.2 (by rw [hd,Int.mul_zero]);unfold Ky at h3;unfold nn2 at hp;generalize JR h g=x at *;generalize JQ h g=y at *;generalize Z7 h g=d at *;generalize JR h k=x' at *;generalize JQ h k=y' at *;generalize Z7 h k=d' at *;have i1:(h.a*h.a+h.b*h.b)*(x*d'-x'*d)=0:=by
   have a1:=congrArg (λ z=>h.a*d'*z) e1;have a2:=congrArg (λ z=>h.a*d*z) e2;have a3:=congrArg (λ z=>h.b*z) h3;grind
  have i2:(h.a*h.a+h.b*h.b)*(y*d'-y'*d)=0:=by
   have a1:=congrArg (λ z=>h.b*d'*z) e1;have a2:=congrArg (λ z=>h.b*d*z) e2;have a3:=congrArg (λ z=>h.a*z) h3;grind
  have j1:=gmz i1 Oz;have j2:=gmz i2 Oz;omega
 ·rintro ⟨h1,h2⟩;have:Ky h g*Z7 h k-Ky h k*Z7 h g=0:=by
   unfold Ky;generalize JR h g=x at *;generalize JQ h g=y at *;generalize Z7 h g=d at *;generalize JR h k=x' at *;generalize JQ h k=y' at *;generalize Z7 h k=d' at *;grind
  exact gmz (hq.1 this) Oz
structure GMk where
 n:Int
 d:Int
 is:Bool
def Z4 (m:GMk) (n d:Int) (later:Bool):GMk :=
 if m.is=true/\((later=true/\ZR n d m.n m.d<=0)∨(later=false/\0<=ZR n d m.n m.d)) then m else ⟨n,d,true⟩
def Xa:Half:=⟨0,0,0⟩
def KY (l:List Half) (h:Half):Nat->GMk × GMk
 | 0=>(⟨0,0,false⟩,⟨0,0,false⟩)
 | i+1=>if XC h (l.getD i Xa)=0 then KY l h i else if 0<XC h (l.getD i Xa) then ((KY l h i).1,Z4 (KY l h i).2 (Ky h (l.getD i Xa)) (Z7 h (l.getD i Xa)) false) else (Z4 (KY l h i).1 (Ky h (l.getD i Xa)) (Z7 h (l.getD i Xa)) true,(KY l h i).2)
def edB (st:GMk × GMk):Bool:=st.1.is&&st.2.is&&decide (ZR st.1.n st.1.d st.2.n st.2.d<0)
def KG (l:List Half) (h:Half):Bool:=edB (KY l h l.length)
theorem gfrac_trans {a b c d e f:Int} (hd:0<d) (hb:0<=b) (hf:0<=f) (h1:a*d<=c*b) (h2:c*f<=e*d):a*f<=e*b:=by
 have p1:=Int.mul_le_mul_of_nonneg_right h1 hf;have p2:=Int.mul_le_mul_of_nonneg_right h2 hb;have id:d*(e*b-a*f)=e*d*b-a*d*f:=by grind
 have e2:c*b*f=c*f*b:=by grind
 have:=gmn (a:=d) (b:=e*b-a*f) (by rw [id];omega) hd;omega
structure EdInv (l:List Half) (h:Half) (i:Nat) (st:GMk × GMk):Prop where
 f1:st.1.is=true->∃ j,j<i/\XC h (l.getD j Xa)<0/\st.1.n=Ky h (l.getD j Xa)/\st.1.d=Z7 h (l.getD j Xa)
 f2:∀ j,j<i->XC h (l.getD j Xa)<0->st.1.is=true/\Ky h (l.getD j Xa)*st.1.d<=st.1.n*Z7 h (l.getD j Xa)
 t1:st.2.is=true->∃ j,j<i/\0<XC h (l.getD j Xa)/\st.2.n=Ky h (l.getD j Xa)/\st.2.d=Z7 h (l.getD j Xa)
 t2:∀ j,j<i->0<XC h (l.getD j Xa)->st.2.is=true/\st.2.n*Z7 h (l.getD j Xa)<=Ky h (l.getD j Xa)*st.2.d
theorem edAt_inv (l:List Half) (h:Half):∀ i,EdInv l h i (KY l h i)
 | 0=>⟨by simp [KY],Sz,by simp [KY],Sz⟩
 | i+1=>by
  have I:=edAt_inv l h i;unfold KY;generalize KY l h i=st at *;obtain ⟨fr,tq⟩:=st;obtain ⟨f1,f2,t1,t2⟩:=I;simp only at f1 f2 t1 t2;have up:∀ {P:Nat->Prop},(∃ j,j<i/\P j)->∃ j,j<i+1/\P j:=λ⟨j,h1,h2⟩=>⟨j,Oz,h2⟩;have split1:∀ {P:Nat->Prop},(∀ j,j<i->P j)->P i->∀ j,j<i+1->P j:=λ h1 h2 j hj=>by
   rcases Nat.lt_or_ge j i with h3|h3
   ·exact h1 j h3
   ·obtain rfl:j=i:=Oz
    exact h2
  generalize hg:l.getD i Xa=g at *;by_cases h0:XC h g=0
  ·rw [if_pos h0];exact ⟨λ x=>up (f1 x),split1 f2 (by rw [hg];intro;omega),λ x=>up (t1 x),split1 t2 (by rw [hg];intro;omega)⟩
  ·rw [if_neg h0];have hd:=KA h0;by_cases hp:0<XC h g
   ·rw [if_pos hp];refine ⟨λ x=>up (f1 x),split1 f2 (by rw [hg];intro;omega),λ _=>?_, ?_⟩
    ·simp only;unfold Z4;split
     ·rename_i hc;exact up (t1 hc.1)
     ·exact ⟨i,Oz,by rw [hg];exact ⟨hp,rfl,rfl⟩⟩
    ·simp only;unfold Z4;split
     ·rename_i hc
      refine split1 t2 ?_;rw [hg];intro _;have:=hc.2;simp only [Bool.false_eq_true,false_and,true_and,false_or,ZR,gsgn_ge] at this;exact ⟨hc.1,Oz⟩
     ·rename_i hc
      refine split1 (λ j hj hpj=>?_) ?_
      ·obtain ⟨h1,h2⟩:=t2 j hj hpj;refine ⟨rfl, ?_⟩;simp only;have h3:Ky h g*tq.d<tq.n*Z7 h g:=by
        rw [not_and] at hc;have:=hc h1;simp only [Bool.false_eq_true,false_and,true_and,false_or,ZR,gsgn_ge] at this;omega
       obtain ⟨j',_,hx,_,hd'⟩:=t1 h1;exact gfrac_trans (by rw [hd'];exact KA Oz) (Int.le_of_lt hd) (Int.le_of_lt (KA Oz)) (Int.le_of_lt h3) h2
      ·rw [hg];intro _;exact ⟨rfl,Int.le_refl _⟩
   ·rw [if_neg hp];have hm:XC h g<0:=Oz
    refine ⟨λ _=>?_, ?_,λ x=>up (t1 x),split1 t2 (by rw [hg];intro;omega)⟩
    ·simp only;unfold Z4;split
     ·rename_i hc;exact up (f1 hc.1)
     ·exact ⟨i,Oz,by rw [hg];exact ⟨hm,rfl,rfl⟩⟩
    ·simp only;unfold Z4;split
     ·rename_i hc
      refine split1 f2 ?_;rw [hg];intro _;have:=hc.2;simp only [Bool.true_eq_false,false_and,true_and,or_false,ZR,gsgn_le] at this;exact ⟨hc.1,Oz⟩
     ·rename_i hc
      refine split1 (λ j hj hpj=>?_) ?_
      ·obtain ⟨h1,h2⟩:=f2 j hj hpj;refine ⟨rfl, ?_⟩;simp only;have h3:fr.n*Z7 h g<Ky h g*fr.d:=by
        rw [not_and] at hc;have:=hc h1;simp only [Bool.true_eq_false,false_and,true_and,or_false,ZR,gsgn_le] at this;omega
       obtain ⟨j',_,hx,_,hd'⟩:=f1 h1;exact gfrac_trans (by rw [hd'];exact KA Oz) (Int.le_of_lt (KA Oz)) (Int.le_of_lt hd) h2 (Int.le_of_lt h3)
      ·rw [hg];intro _;exact ⟨rfl,Int.le_refl _⟩
theorem Y2 {l:List Half} {j:Nat} (h:j<l.length):l.getD j Xa∈l:=by
 rw [List.getD_eq_getElem?_getD,List.getElem?_eq_getElem h];exact List.getElem_mem h
theorem Jq {l:List Half} {x:Half} (h:x∈l):∃ j,j<l.length/\l.getD j Xa=x:=by
 obtain ⟨j,hj,he⟩:=List.mem_iff_getElem.1 h;exact ⟨j,hj,by rw [List.getD_eq_getElem?_getD,List.getElem?_eq_getElem hj];exact he⟩
theorem edge_iff {l:List Half} (g:ZQ l) {h:Half} (n:KH h):KG l h=true ↔ Zz XC Za l h:=by
 have I:=edAt_inv l h l.length;have hp:=nn2_pos n;unfold KG edB;generalize KY l h l.length=st at *;obtain ⟨fr,tq⟩:=st;obtain ⟨f1,f2,t1,t2⟩:=I;simp only at f1 f2 t1 t2;obtain ⟨⟨a,ha,ha'⟩,⟨b,hb,hb'⟩⟩:=g.around n;obtain ⟨ja,hja,ea⟩:=Jq ha;obtain ⟨jb,hjb,eb⟩:=Jq hb;have ft:=(f2 jb hjb (by rw [eb];exact hb')).1;have tt:=(t2 ja hja (by rw [ea];exact ha')).1;simp only [ft,tt,Bool.true_and,Bool.and_true,decide_eq_true_eq,ZR,gsgn_lt];obtain ⟨p,hp1,hp2,hp3,hp4⟩:=f1 ft;obtain ⟨q,hq1,hq2,hq3,hq4⟩:=t1 tt;have hpd:0<fr.d:=by rw [hp4];exact KA Oz
 have hqd:0<tq.d:=by rw [hq4];exact KA Oz
 constructor
 ·intro hlt x hx y hy h1 h2;have h1':XC h x<0:=by have:=Zx x h;omega
  obtain ⟨jx,hjx,ex⟩:=Jq hx;obtain ⟨jy,hjy,ey⟩:=Jq hy;have k1:=(f2 jx hjx (by rw [ex];exact h1')).2;have k2:=(t2 jy hjy (by rw [ey];exact h2)).2;rw [ex] at k1;rw [ey] at k2;have dx:=KA (h:=h) (g:=x) Oz;have dy:=KA (h:=h) (g:=y) Oz;have c:=pos_cmp h1' h2;have p1:=Int.mul_le_mul_of_nonneg_right k1 (Int.le_of_lt hqd);have p2:fr.n*tq.d*Z7 h x<tq.n*fr.d*Z7 h x:=Int.mul_lt_mul_of_pos_right Oz dx;have e1:fr.n*Z7 h x*tq.d=fr.n*tq.d*Z7 h x:=by grind
  have e2:Ky h x*fr.d*tq.d=fr.d*(Ky h x*tq.d):=by grind
  have e3:tq.n*fr.d*Z7 h x=fr.d*(tq.n*Z7 h x):=by grind
  have s1:Ky h x*tq.d<tq.n*Z7 h x:=by
   have:0<fr.d*(tq.n*Z7 h x-Ky h x*tq.d):=by rw [Int.mul_sub];omega
   have:=gmp this hpd;omega
  have p3:Ky h x*tq.d*Z7 h y<tq.n*Z7 h x*Z7 h y:=Int.mul_lt_mul_of_pos_right s1 dy;have p4:=Int.mul_le_mul_of_nonneg_right k2 (Int.le_of_lt dx);have e4:tq.n*Z7 h y*Z7 h x=tq.n*Z7 h x*Z7 h y:=by grind
  have e5:tq.d*(Ky h y*Z7 h x-Ky h x*Z7 h y)=Ky h y*tq.d*Z7 h x-Ky h x*tq.d*Z7 h y:=by grind
  have s2:=gmp (a:=tq.d) (b:=Ky h y*Z7 h x-Ky h x*Z7 h y) (by rw [e5];omega) hqd;rw [c] at s2;exact gmp s2 hp
 ·intro E;have c:=pos_cmp hp2 hq2;have hd:=E _ (Y2 hp1) _ (Y2 hq1) (by have:=Zx (l.getD p Xa) h;omega) hq2;have:=Int.mul_pos hp hd;rw [hp3,hp4,hq3,hq4];omega
theorem Zr {a b A B:Int} (ha : -A<=a/\a<=A) (hb : -B<=b/\b<=B) : -(A*B)<=a*b/\a*b<=A*B:=by
 have hA:a.natAbs<=A.natAbs:=Oz
 have hB:b.natAbs<=B.natAbs:=Oz
 have hm:=Nat.mul_le_mul hA hB;rw [<- Int.natAbs_mul,<- Int.natAbs_mul] at hm;have hAB:0<=A*B:=Int.mul_nonneg Oz Oz;omega
theorem gcdAll_dvd {x y d:Int}:((Xm [x,y,d]:Nat):Int) ∣ x/\((Xm [x,y,d]:Nat):Int) ∣ y/\((Xm [x,y,d]:Nat):Int) ∣ d:=by
 rw [gcd3];have h1:=Nat.gcd_dvd_left (Nat.gcd x.natAbs y.natAbs) d.natAbs;refine ⟨?_, ?_, ?_⟩
 ·exact Int.ofNat_dvd_left.2 (Nat.dvd_trans h1 (Nat.gcd_dvd_left _ _))
 ·exact Int.ofNat_dvd_left.2 (Nat.dvd_trans h1 (Nat.gcd_dvd_right _ _))
 ·exact Int.ofNat_dvd_left.2 (Nat.gcd_dvd_right _ _)
theorem gcdAll_pos {x y d:Int} (h:d≠0):0<Xm [x,y,d]:=by
 rw [gcd3];exact Nat.gcd_pos_of_pos_right _ Oz
structure RedS (x y d:Int) (s:X9) (g:Int):Prop where
 pos:0<g
 x:x=g*s.x
 y:y=g*s.y
 d:d=g*s.d
theorem red_scale {x y d:Int} (h:d≠0):RedS x y d (Kf x y d) (Xm [x,y,d]:Nat):=by
 obtain ⟨h1,h2,h3⟩:=gcdAll_dvd (x:=x) (y:=y) (d:=d);have hp:=gcdAll_pos (x:=x) (y:=y) h;refine ⟨Oz, ?_, ?_, ?_⟩
 ·exact (Int.mul_tdiv_cancel' h1).symm
 ·exact (Int.mul_tdiv_cancel' h2).symm
 ·exact (Int.mul_tdiv_cancel' h3).symm
theorem red_gcd {x y d:Int} (h:d≠0):Xm [(Kf x y d).x,(Kf x y d).y,(Kf x y d).d]=1:=red3 (gcdAll_pos h)
theorem spotOf_in {x y d:Int} (hd:1<=d/\d<=5000000000) (hx : -1000*d<=x/\x<=1000*d) (hy : -1000*d<=y/\y<=1000*d):Zd x y d=some (Kf x y d)/\X7 (Kf x y d)=true:=by
 have r:=red_scale (x:=x) (y:=y) (d:=d) Oz;have hg:=red_gcd (x:=x) (y:=y) (d:=d) Oz;have ok:X7 (Kf x y d)=true:=by
  rw [J0];generalize Kf x y d=s at *;obtain ⟨p,e1,e2,e3⟩:=r;generalize ((Xm [x,y,d]:Nat):Int)=g at *;have d1:0<s.d:=gmp (a:=g) Oz p;have d2:s.d<=g*s.d:=by
   have:=Int.mul_le_mul_of_nonneg_right (show 1<=g by omega) (Int.le_of_lt d1);omega
  refine ⟨⟨Oz,Oz⟩,⟨?_, ?_⟩,⟨?_, ?_⟩,hg⟩
  ·have e:g*(s.x+1000*s.d)=x+1000*d:=by rw [e1,e3];grind
   have:=gmn (a:=g) (b:=s.x+1000*s.d) Oz p;omega
  ·have e:g*(1000*s.d-s.x)=1000*d-x:=by rw [e1,e3];grind
   have:=gmn (a:=g) (b:=1000*s.d-s.x) Oz p;omega
  ·have e:g*(s.y+1000*s.d)=y+1000*d:=by rw [e2,e3];grind
   have:=gmn (a:=g) (b:=s.y+1000*s.d) Oz p;omega
  ·have e:g*(1000*s.d-s.y)=1000*d-y:=by rw [e2,e3];grind
   have:=gmn (a:=g) (b:=1000*s.d-s.y) Oz p;omega
 refine ⟨?_,ok⟩;unfold Zd;rw [if_neg,if_pos ok];simp [Yj];omega
theorem dvd_of_gcd1 {a b c n m:Nat} (h:Nat.gcd (Nat.gcd a b) c=1) (h1:n ∣ m*a) (h2:n ∣ m*b) (h3:n ∣ m*c):n ∣ m:=by
 have h4:=Nat.dvd_gcd (Nat.dvd_gcd h1 h2) h3;rwa [Nat.gcd_mul_left,Nat.gcd_mul_left,h,Nat.mul_one] at h4
theorem red_eq {x y d x' y' d':Int} (hd:0<d) (hd':0<d'):Kf x y d=Kf x' y' d' ↔ x*d'=x'*d/\y*d'=y'*d:=by
 have r:=red_scale (x:=x) (y:=y) (d:=d) Oz;have r':=red_scale (x:=x') (y:=y') (d:=d') Oz;have g1:=red_gcd (x:=x) (y:=y) (d:=d) Oz;have g1':=red_gcd (x:=x') (y:=y') (d:=d') Oz;generalize Kf x y d=s at *;generalize Kf x' y' d'=t at *;obtain ⟨p,e1,e2,e3⟩:=r;obtain ⟨p',e1',e2',e3'⟩:=r';generalize ((Xm [x,y,d]:Nat):Int)=g at *;generalize ((Xm [x',y',d']:Nat):Int)=g' at *;constructor
 ·rintro rfl;rw [e1,e2,e3,e1',e2',e3'];exact ⟨by grind,by grind⟩
 ·rintro ⟨h1,h2⟩;have gg:g*g'≠0:=by have:=Int.mul_pos p p';omega
  have k1:s.x*t.d=t.x*s.d:=by
   have:(g*g')*(s.x*t.d-t.x*s.d)=0:=by rw [e1,e3'] at h1;rw [e1',e3] at h1;grind
   have:=gmz this gg;omega
  have k2:s.y*t.d=t.y*s.d:=by
   have:(g*g')*(s.y*t.d-t.y*s.d)=0:=by rw [e2,e3'] at h2;rw [e2',e3] at h2;grind
   have:=gmz this gg;omega
  have sd:0<s.d:=gmp (a:=g) Oz p;have td:0<t.d:=gmp (a:=g') Oz p';rw [gcd3] at g1 g1';have n1:s.x.natAbs*t.d.natAbs=t.x.natAbs*s.d.natAbs:=by rw [<- Int.natAbs_mul,<- Int.natAbs_mul,k1]
  have n2:s.y.natAbs*t.d.natAbs=t.y.natAbs*s.d.natAbs:=by rw [<- Int.natAbs_mul,<- Int.natAbs_mul,k2]
  have v1:s.d.natAbs ∣ t.d.natAbs:=dvd_of_gcd1 g1 ⟨t.x.natAbs,by rw [Nat.mul_comm,n1,Nat.mul_comm]⟩ ⟨t.y.natAbs,by rw [Nat.mul_comm,n2,Nat.mul_comm]⟩ ⟨t.d.natAbs,by rw [Nat.mul_comm]⟩;have v2:t.d.natAbs ∣ s.d.natAbs:=dvd_of_gcd1 g1' ⟨s.x.natAbs,by rw [Nat.mul_comm,<- n1,Nat.mul_comm]⟩ ⟨s.y.natAbs,by rw [Nat.mul_comm,<- n2,Nat.mul_comm]⟩ ⟨s.d.natAbs,by rw [Nat.mul_comm]⟩;have ed:s.d=t.d:=by have:=Nat.dvd_antisymm v1 v2;omega
  rw [ed] at k1 k2;have ex:=Int.eq_of_mul_eq_mul_right (show t.d≠0 by omega) k1;have ey:=Int.eq_of_mul_eq_mul_right (show t.d≠0 by omega) k2;cases s;cases t;simp only at ex ey ed;subst ex ey ed;rfl
def inPt (l:List Half) (x y d:Int):Bool:=decide (d≠0)&&decide (x<=1000*d)&&decide (-1000*d<=x)&&decide (y<=1000*d)&&decide (-1000*d<=y)&&l.all λ f=>decide (f.a*x+f.b*y<=f.c*d)
def gIn (l:List Half) (h g:Half):Bool:=inPt l (JR h g) (JQ h g) (Z7 h g)
theorem gIn_iff {l:List Half} (gd:ZQ l) {h g:Half}:gIn l h g=true ↔ GIns XC Za l h g:=by
 unfold gIn inPt GIns;simp only [Bool.and_eq_true,decide_eq_true_eq,List.all_eq_true];have key:XC h g≠0->∀ f:Half,(f.a*JR h g+f.b*JQ h g<=f.c*Z7 h g ↔ 0<=XC h g*Za h g f):=by
  intro h0 f;have e:=cr_in h g f;by_cases hn:XC h g<0
  ·rw [if_pos hn] at e;constructor
   ·intro h1;exact Int.mul_nonneg_of_nonpos_of_nonpos Oz Oz
   ·intro h1;have:=gmn (a:=-XC h g) (b:=-Za h g f) (by rw [Int.neg_mul_neg];exact h1) Oz;omega
  ·rw [if_neg hn] at e;constructor
   ·intro h1;exact Int.mul_nonneg Oz Oz
   ·intro h1;have:=gmn h1 Oz;omega
 constructor
 ·rintro ⟨⟨⟨⟨⟨h0,_⟩,_⟩,_⟩,_⟩,h6⟩;have h0':XC h g≠0:=λ e=>h0 (crD_zero e);exact ⟨h0',λ f hf=>(key h0' f).1 (h6 f hf)⟩
 ·rintro ⟨h0,h6⟩;have hd:=KA h0;have h7:=λ f hf=>(key h0 f).2 (h6 f hf);obtain ⟨⟨a1,a2⟩,a3,a4⟩:=gd.frame h7 Oz;exact ⟨⟨⟨⟨⟨Oz,a2⟩,a1⟩,a4⟩,a3⟩,h7⟩
abbrev P3:=Int × Int × Int
def spot0:X9:=⟨0,0,0⟩
def gDiff (p q:P3):Bool:=decide ((Zd p.1 p.2.1 p.2.2).getD spot0≠(Zd q.1 q.2.1 q.2.2).getD spot0)
def gPt (h g:Half):P3:=(JR h g,JQ h g,Z7 h g)
def Kt (l:List Half) (h:Half):Nat->P3 × Bool
 | 0=>((0,0,0),false)
 | i+1=>if (Kt l h i).2=true then Kt l h i else if gIn l h (l.getD i Xa)=false then Kt l h i else if (Kt l h i).1.2.2=0 then (gPt h (l.getD i Xa),false) else ((Kt l h i).1,gDiff (Kt l h i).1 (gPt h (l.getD i Xa)))
def ges (l:List Half) (h:Half):Bool:=(Kt l h l.length).2
theorem crD_le {h g:Half} (n1:Xt h=true) (n2:Xt g=true):Z7 h g<=5000000000:=by
 rw [Y0] at n1 n2;obtain ⟨a1,b1,_⟩:=n1;obtain ⟨a2,b2,_⟩:=n2;have p:=Zr (a:=h.a) (b:=g.b) (A:=50000) (B:=50000) a1 b2;have q:=Zr (a:=h.b) (b:=g.a) (A:=50000) (B:=50000) b1 a2;unfold Z7 XC;split<;>omega
theorem gIn_spot {l:List Half} {h g:Half} (n1:Xt h=true) (n2:Xt g=true) (hi:gIn l h g=true):Zd (JR h g) (JQ h g) (Z7 h g)=some (Kf (JR h g) (JQ h g) (Z7 h g))/\0<Z7 h g:=by
 unfold gIn inPt at hi;simp only [Bool.and_eq_true,decide_eq_true_eq] at hi;obtain ⟨⟨⟨⟨⟨h0,h1⟩,h2⟩,h3⟩,h4⟩,_⟩:=hi;have hc:XC h g≠0:=λ e=>h0 (crD_zero e);have:=KA hc;exact ⟨(spotOf_in ⟨Oz,crD_le n1 n2⟩ ⟨h2,h1⟩ ⟨h4,h3⟩).1,this⟩
theorem gDiff_iff {l:List Half} {h g k:Half} (n:KH h) (n1:Xt h=true) (n2:Xt g=true) (n3:Xt k=true) (hi:gIn l h g=true) (hk:gIn l h k=true):gDiff (gPt h g) (gPt h k)=true ↔ Za h g k≠0:=by
 obtain ⟨e1,d1⟩:=gIn_spot n1 n2 hi;obtain ⟨e2,d2⟩:=gIn_spot n1 n3 hk;unfold gDiff gPt;simp only [e1,e2,Option.getD_some,decide_eq_true_eq];have e:=same_pt (g:=g) (k:=k) n;rw [ne_eq,red_eq d1 d2,ne_eq,e]
structure EsInv (l:List Half) (h:Half) (i:Nat) (st:P3 × Bool):Prop where
 a:st.1.2.2=0->∀ j,j<i->gIn l h (l.getD j Xa)=false
 b:st.1.2.2≠0->∃ j,j<i/\gIn l h (l.getD j Xa)=true/\st.1=gPt h (l.getD j Xa)
 c:st.2=true->∃ j k,j<i/\k<i/\gIn l h (l.getD j Xa)=true/\gIn l h (l.getD k Xa)=true/\gDiff (gPt h (l.getD j Xa)) (gPt h (l.getD k Xa))=true
 d:st.2=false->∀ j,j<i->gIn l h (l.getD j Xa)=true->gDiff st.1 (gPt h (l.getD j Xa))=false
theorem esAt_inv (l:List Half) (h:Half):∀ i,EsInv l h i (Kt l h i)∨((Kt l h i).2=true/\∃ j k,j<i/\k<i/\gIn l h (l.getD j Xa)=true/\gIn l h (l.getD k Xa)=true/\gDiff (gPt h (l.getD j Xa)) (gPt h (l.getD k Xa))=true)
 | 0=>.inl ⟨Sz,by simp [Kt],by simp [Kt],Sz⟩
 | i+1=>by
  have I:=esAt_inv l h i;unfold Kt;generalize Kt l h i=st at *;cases hb:st.2
  ·rw [if_neg Sz];left;have I':EsInv l h i st:=by
    rcases I with I|I
    ·exact I
    ·rw [hb] at I;exact absurd I.1 Sz
   obtain ⟨a,b,c,d⟩:=I';have split1:∀ {P:Nat->Prop},(∀ j,j<i->P j)->P i->∀ j,j<i+1->P j:=λ h1 h2 j hj=>by
    rcases Nat.lt_or_ge j i with h3|h3
    ·exact h1 j h3
    ·obtain rfl:j=i:=Oz
     exact h2
   by_cases h1:gIn l h (l.getD i Xa)=false
   ·rw [if_pos h1];exact ⟨λ x=>split1 (a x) h1,λ x=>by obtain ⟨j,h2,h3⟩:=b x;exact ⟨j,Oz,h3⟩,by rw [hb];simp,λ x=>split1 (d x) (by rw [h1];simp)⟩
   ·rw [if_neg h1];have h1':gIn l h (l.getD i Xa)=true:=by simpa using h1
    by_cases h2:st.1.2.2=0
    ·rw [if_pos h2];have hcd:(gPt h (l.getD i Xa)).2.2≠0:=by
      unfold gIn inPt at h1';simp only [Bool.and_eq_true,decide_eq_true_eq] at h1';exact h1'.1.1.1.1.1
     refine ⟨λ x=>absurd x hcd,λ _=>⟨i,Oz,h1',rfl⟩,Sz,λ _=>split1 (λ j hj hx=>?_) (λ _=>by simp [gDiff])⟩;rw [a h2 j hj] at hx;cases hx
    ·rw [if_neg h2];refine ⟨λ x=>absurd x h2,λ x=>by obtain ⟨j,h2,h3⟩:=b x;exact ⟨j,Oz,h3⟩,λ x=>?_,λ x=>split1 (d hb) (λ _=>x)⟩;obtain ⟨j,h3,h4,h5⟩:=b h2;simp only at x;rw [h5] at x;exact ⟨j,i,Oz,Oz,h4,h1',x⟩
  ·rw [if_pos rfl];right;refine ⟨hb, ?_⟩;have:∃ j k,j<i/\k<i/\gIn l h (l.getD j Xa)=true/\gIn l h (l.getD k Xa)=true/\gDiff (gPt h (l.getD j Xa)) (gPt h (l.getD k Xa))=true:=by
    rcases I with I|I
    ·exact I.c hb
    ·exact I.2
   obtain ⟨j,k,h1,h2,h3⟩:=this;exact ⟨j,k,Oz,Oz,h3⟩
theorem esAt_up {l:List Half} {h:Half} {i:Nat} (hb:(Kt l h i).2=true):∀ n,(Kt l h (i+n)).2=true
 | 0=>hb
 | n+1=>by
  have:=esAt_up hb n;rw [<- Nat.add_assoc,Kt,if_pos this];exact this
theorem ges_iff {l:List Half} (gd:ZQ l) (ok:∀ f∈l,Xt f=true) {h:Half} (hh:h∈l):ges l h=true ↔ GES XC Za l h:=by
 have n:=gd.nz h hh;have I:=esAt_inv l h l.length;unfold ges;generalize Kt l h l.length=st at *;constructor
 ·intro hb;have:∃ j k,j<l.length/\k<l.length/\gIn l h (l.getD j Xa)=true/\gIn l h (l.getD k Xa)=true/\gDiff (gPt h (l.getD j Xa)) (gPt h (l.getD k Xa))=true:=by
   rcases I with I|I
   ·exact I.c hb
   ·exact I.2
  obtain ⟨j,k,h1,h2,h3,h4,h5⟩:=this;have m1:=Y2 h1;have m2:=Y2 h2;exact ⟨_,m1,_,m2,(gIn_iff gd).1 h3,(gIn_iff gd).1 h4,(gDiff_iff n (ok h hh) (ok _ m1) (ok _ m2) h3 h4).1 h5⟩
 ·rintro ⟨g,hg,k,hk,i1,i2,hne⟩;cases hb:st.2
  ·exfalso;have I':EsInv l h l.length st:=by
    rcases I with I|I
    ·exact I
    ·rw [hb] at I;exact absurd I.1 Sz
   obtain ⟨a,b,c,d⟩:=I';obtain ⟨jg,hjg,eg⟩:=Jq hg;obtain ⟨jk,hjk,ek⟩:=Jq hk;have i1':=(gIn_iff gd).2 i1;have i2':=(gIn_iff gd).2 i2;have h0:st.1.2.2≠0:=by
    intro h0;have:=a h0 jg hjg;rw [eg,i1'] at this;cases this
   obtain ⟨jf,hjf,hf,ef⟩:=b h0;have mf:=Y2 hjf;have dg:=d hb jg hjg (by rw [eg];exact i1');have dk:=d hb jk hjk (by rw [ek];exact i2');rw [eg,ef] at dg;rw [ek,ef] at dk;generalize l.getD jf Xa=f at *;have z1:Za h f g=0:=by
    rcases Classical.em (Za h f g=0) with h1|h1
    ·exact h1
    ·rw [(gDiff_iff n (ok h hh) (ok _ mf) (ok _ hg) hf i1').2 h1] at dg;cases dg
   have z2:Za h f k=0:=by
    rcases Classical.em (Za h f k=0) with h1|h1
    ·exact h1
    ·rw [(gDiff_iff n (ok h hh) (ok _ mf) (ok _ hk) hf i2').2 h1] at dk;cases dk
   have h4:=gom.p3 h f g k;rw [z1,z2] at h4;simp only [Int.zero_mul,Int.sub_zero,Int.zero_add] at h4;exact hne (gmz h4 ((gIn_iff gd).1 hf).1)
  ·rfl
def hroomy (g h:Half):Bool:=decide (0<g.c*X5 h+h.c*X5 g)
def voidAt (l:List Half) (k i:Nat):Bool:=!(decide (i=k))&&decide (XC (l.getD k Xa) (l.getD i Xa)=0) && !hroomy (l.getD i Xa) (l.getD k Xa)
def Jk (l:List Half) (k:Nat):Bool:=(List.range l.length).any (voidAt l k)
def voidB (l:List Half):Bool:=(List.range l.length).any (Jk l)
def X0 (l:List Half):List Half:=if voidB l=true then [] else l.filter (KG l)
def meetS (l:List Half):List Half:=if (l.filter (ges l)).length<3 then [] else l.filter (ges l)
theorem getD_inj {l:List Half} (n:l.Nodup) {i k:Nat} (hi:i<l.length) (hk:k<l.length) (h:l.getD i Xa=l.getD k Xa):i=k:=by
 rw [List.getD_eq_getElem?_getD,List.getD_eq_getElem?_getD,List.getElem?_eq_getElem hi,List.getElem?_eq_getElem hk] at h;exact (List.getElem_inj n).1 h
theorem voidB_iff {l:List Half} (gd:ZQ l):voidB l=true ↔ GVoid l:=by
 have nd:=gd.sorted.nodup;unfold voidB Jk voidAt hroomy;simp only [List.any_eq_true,List.mem_range,Bool.and_eq_true,Bool.not_eq_true',decide_eq_false_iff_not,decide_eq_true_eq];constructor
 ·rintro ⟨k,hk,i,hi,⟨h1,h2⟩,h3⟩;exact ⟨_,Y2 hk,_,Y2 hi,λ e=>h1 (getD_inj nd hi hk e.symm),h2,Oz⟩
 ·rintro ⟨u,hu,v,hv,hne,h2,h3⟩;obtain ⟨k,hk,ek⟩:=Jq hu;obtain ⟨i,hi,ei⟩:=Jq hv;refine ⟨k,hk,i,hi,⟨λ e=>hne ?_, ?_⟩, ?_⟩
  ·subst e;rw [<- ek,<- ei]
  ·rw [ek,ei];exact h2
  ·rw [ek,ei];omega
theorem meet_same {l:List Half} (gd:ZQ l) (ok:∀ f∈l,Xt f=true):meetS l=X0 l:=by
 unfold meetS X0;by_cases hv:voidB l=true
 ·rw [if_pos hv,if_pos];exact gd.void_len ((voidB_iff gd).1 hv) _ (λ h hh hp=>(ges_iff gd ok hh).1 hp)
 ·rw [if_neg hv];have hv':¬ GVoid l:=λ h=>hv ((voidB_iff gd).2 h);obtain ⟨h1,h2⟩:=gd.edges hv';have e:l.filter (ges l)=l.filter (KG l):=by
   apply List.filter_congr;intro x hx;rw [Bool.eq_iff_iff,ges_iff gd ok hx,edge_iff gd (gd.nz x hx),h1 x hx]
  rw [e];rcases h2 (KG l) (λ h hh=>edge_iff gd (gd.nz h hh)) with h3|h3
  ·rw [h3];rfl
  ·rw [if_neg Oz]
end Go.Proofs.YtbekjpkcicjcgaaGreat
