/-
 The search of the program for the two ends of an edge.
 Conditions: none.
-/
import Derived.Test.YtbekjpkcicjcgabGreatGrB
import Derived.Test.YtbekjpkcicjcgabGreatGrG
namespace Go.Proofs.YtbekjpkcicjcgabGreat
open Go.RowKit
theorem gsgn_lt {x:Int}:sgn x<0 ↔ x<0:=by unfold sgn;split<;>(try split)<;>omega
theorem gsgn_ge {x:Int}:0<=sgn x ↔ 0<=x:=by unfold sgn;split<;>(try split)<;>omega
theorem gsgn_le {x:Int}:sgn x<=0 ↔ x<=0:=by unfold sgn;split<;>(try split)<;>omega
def J2 (h g:Half):Int:=if Xp h g<0 then -(h.c*g.b-g.c*h.b) else h.c*g.b-g.c*h.b
def J0 (h g:Half):Int:=if Xp h g<0 then -(h.a*g.c-g.a*h.c) else h.a*g.c-g.a*h.c
def ZZ (h g:Half):Int:=if Xp h g<0 then -Xp h g else Xp h g
def Kr (h g:Half):Int:=h.a*J0 h g-h.b*J2 h g
def nn2 (h:Half):Int:=h.a*h.a+h.b*h.b
theorem nn2_pos {h:Half} (n:Kn h):0<nn2 h:=by
 unfold nn2;have sq:∀ x:Int,0<=x*x/\(x≠0->0<x*x):=λ x=>by
  rcases Int.lt_trichotomy x 0 with h|h|h
  ·have:=Int.mul_pos_of_neg_of_neg h h;omega
  ·subst h;simp
  ·have:=Int.mul_pos h h;omega
 have h1:=sq h.a;have h2:=sq h.b;unfold Kn at n;by_cases e:h.a=0
 ·have:=h2.2 (by omega);omega
 ·have:=h1.2 e;omega
theorem ZL {h g:Half} (e:Xp h g≠0):0<ZZ h g:=by unfold ZZ;split<;>omega
theorem crD_zero {h g:Half} (e:Xp h g=0):ZZ h g=0:=by unfold ZZ;rw [e];simp
theorem cr_on (h g:Half):h.a*J2 h g+h.b*J0 h g=h.c*ZZ h g:=by
 unfold J2 J0 ZZ;split<;>(simp only [Xp];grind)
theorem cr_in (h g f:Half):f.c*ZZ h g-(f.a*J2 h g+f.b*J0 h g)=if Xp h g<0 then -Ya h g f else Ya h g f:=by
 unfold J2 J0 ZZ;split<;>(simp only [Xp,Ya];grind)
theorem pos_cmp {h g k:Half} (h1:Xp h g<0) (h2:0<Xp h k):Kr h k*ZZ h g-Kr h g*ZZ h k=nn2 h*Ya g h k:=by
 unfold Kr J2 J0 ZZ;rw [if_pos h1,if_pos h1,if_pos h1,if_neg (by omega),if_neg (by omega),if_neg (by omega)];simp only [nn2,Ya,Xp];grind
theorem pos_eq (h g k:Half):Kr h g*ZZ h k-Kr h k*ZZ h g=0 ↔ nn2 h*Ya h g k=0:=by
 have id:(Kr h g*ZZ h k-Kr h k*ZZ h g=nn2 h*Ya h g k)∨(Kr h g*ZZ h k-Kr h k*ZZ h g = -(nn2 h*Ya h g k)):=by
  unfold Kr J2 J0 ZZ;by_cases h1:Xp h g<0<;>by_cases h2:Xp h k<0
  ·right;simp only [if_pos h1,if_pos h2];simp only [nn2,Ya,Xp];grind
  ·left;simp only [if_pos h1,if_neg h2];simp only [nn2,Ya,Xp];grind
  ·left;simp only [if_neg h1,if_pos h2];simp only [nn2,Ya,Xp];grind
  ·right;simp only [if_neg h1,if_neg h2];simp only [nn2,Ya,Xp];grind
 omega
theorem same_pt {h g k:Half} (n:Kn h):Ya h g k=0 ↔ (J2 h g*ZZ h k=J2 h k*ZZ h g/\J0 h g*ZZ h k=J0 h k*ZZ h g):=by
 have hp:=nn2_pos n;have e1:=cr_on h g;have e2:=cr_on h k;have hq:=pos_eq h g k;constructor
 ·intro hd;have h3:=hq.2 (by rw [hd,Int.mul_zero]);unfold Kr at h3;unfold nn2 at hp;generalize J2 h g=x at *;generalize J0 h g=y at *;generalize ZZ h g=d at *;generalize J2 h k=x' at *;generalize J0 h k=y' at *;generalize ZZ h k=d' at *;have i1:(h.a*h.a+h.b*h.b)*(x*d'-x'*d)=0:=by
   have a1:=congrArg (λ z=>h.a*d'*z) e1;have a2:=congrArg (λ z=>h.a*d*z) e2;have a3:=congrArg (λ z=>h.b*z) h3;grind
  have i2:(h.a*h.a+h.b*h.b)*(y*d'-y'*d)=0:=by
   have a1:=congrArg (λ z=>h.b*d'*z) e1;have a2:=congrArg (λ z=>h.b*d*z) e2;have a3:=congrArg (λ z=>h.a*z) h3;grind
  have j1:=gmz i1 (by omega);have j2:=gmz i2 (by omega);omega
 ·rintro ⟨h1,h2⟩;have:Kr h g*ZZ h k-Kr h k*ZZ h g=0:=by
   unfold Kr;generalize J2 h g=x at *;generalize J0 h g=y at *;generalize ZZ h g=d at *;generalize J2 h k=x' at *;generalize J0 h k=y' at *;generalize ZZ h k=d' at *;grind
  exact gmz (hq.1 this) (by omega)
structure GMk where
 n:Int
 d:Int
 is:Bool
def ZX (m:GMk) (n d:Int) (later:Bool):GMk :=
 if m.is=true/\((later=true/\KV n d m.n m.d<=0)∨(later=false/\0<=KV n d m.n m.d)) then m else ⟨n,d,true⟩
def Xb:Half:=⟨0,0,0⟩
def KZ (l:List Half) (h:Half):Nat->GMk × GMk
 | 0=>(⟨0,0,false⟩,⟨0,0,false⟩)
 | i+1=>if Xp h (l.getD i Xb)=0 then KZ l h i else if 0<Xp h (l.getD i Xb) then ((KZ l h i).1,ZX (KZ l h i).2 (Kr h (l.getD i Xb)) (ZZ h (l.getD i Xb)) false) else (ZX (KZ l h i).1 (Kr h (l.getD i Xb)) (ZZ h (l.getD i Xb)) true,(KZ l h i).2)
def edB (st:GMk × GMk):Bool:=st.1.is&&st.2.is&&decide (KV st.1.n st.1.d st.2.n st.2.d<0)
def Kj (l:List Half) (h:Half):Bool:=edB (KZ l h l.length)
theorem ZG {a b c d e f:Int} (hd:0<d) (hb:0<=b) (hf:0<=f) (h1:a*d<=c*b) (h2:c*f<=e*d):a*f<=e*b:=by
 have p1:=Int.mul_le_mul_of_nonneg_right h1 hf;have p2:=Int.mul_le_mul_of_nonneg_right h2 hb;have id:d*(e*b-a*f)=e*d*b-a*d*f:=by grind
 have e2:c*b*f=c*f*b:=by grind
 have:=gmn (a:=d) (b:=e*b-a*f) (by rw [id];omega) hd;omega
structure EdInv (l:List Half) (h:Half) (i:Nat) (st:GMk × GMk):Prop where
 f1:st.1.is=true->∃ j,j<i/\Xp h (l.getD j Xb)<0/\st.1.n=Kr h (l.getD j Xb)/\st.1.d=ZZ h (l.getD j Xb)
 f2:∀ j,j<i->Xp h (l.getD j Xb)<0->st.1.is=true/\Kr h (l.getD j Xb)*st.1.d<=st.1.n*ZZ h (l.getD j Xb)
 t1:st.2.is=true->∃ j,j<i/\0<Xp h (l.getD j Xb)/\st.2.n=Kr h (l.getD j Xb)/\st.2.d=ZZ h (l.getD j Xb)
 t2:∀ j,j<i->0<Xp h (l.getD j Xb)->st.2.is=true/\st.2.n*ZZ h (l.getD j Xb)<=Kr h (l.getD j Xb)*st.2.d
theorem edAt_inv (l:List Half) (h:Half):∀ i,EdInv l h i (KZ l h i)
 | 0=>⟨by simp [KZ],by simp,by simp [KZ],by simp⟩
 | i+1=>by
  have I:=edAt_inv l h i;unfold KZ;generalize KZ l h i=st at *;obtain ⟨fr,tq⟩:=st;obtain ⟨f1,f2,t1,t2⟩:=I;simp only at f1 f2 t1 t2;have up:∀ {P:Nat->Prop},(∃ j,j<i/\P j)->∃ j,j<i+1/\P j:=λ⟨j,h1,h2⟩=>⟨j,by omega,h2⟩;have split1:∀ {P:Nat->Prop},(∀ j,j<i->P j)->P i->∀ j,j<i+1->P j:=λ h1 h2 j hj=>by
   rcases Nat.lt_or_ge j i with h3|h3
   ·exact h1 j h3
   ·obtain rfl:j=i:=by omega
    exact h2
  generalize hg:l.getD i Xb=g at *;by_cases h0:Xp h g=0
  ·rw [if_pos h0];exact ⟨λ x=>up (f1 x),split1 f2 (by rw [hg];intro;omega),λ x=>up (t1 x),split1 t2 (by rw [hg];intro;omega)⟩
  ·rw [if_neg h0];have hd:=ZL h0;by_cases hp:0<Xp h g
   ·rw [if_pos hp];refine ⟨λ x=>up (f1 x),split1 f2 (by rw [hg];intro;omega),λ _=>?_, ?_⟩
    ·simp only;unfold ZX;split
     ·rename_i hc;exact up (t1 hc.1)
     ·exact ⟨i,by omega,by rw [hg];exact ⟨hp,rfl,rfl⟩⟩
    ·simp only;unfold ZX;split
     ·rename_i hc
      refine split1 t2 ?_;rw [hg];intro _;have:=hc.2;simp only [Bool.false_eq_true,false_and,true_and,false_or,KV,gsgn_ge] at this;exact ⟨hc.1,by omega⟩
     ·rename_i hc
      refine split1 (λ j hj hpj=>?_) ?_
      ·obtain ⟨h1,h2⟩:=t2 j hj hpj;refine ⟨rfl, ?_⟩;simp only;have h3:Kr h g*tq.d<tq.n*ZZ h g:=by
        rw [not_and] at hc;have:=hc h1;simp only [Bool.false_eq_true,false_and,true_and,false_or,KV,gsgn_ge] at this;omega
       obtain ⟨j',_,hx,_,hd'⟩:=t1 h1;exact ZG (by rw [hd'];exact ZL (by omega)) (Int.le_of_lt hd) (Int.le_of_lt (ZL (by omega))) (Int.le_of_lt h3) h2
      ·rw [hg];intro _;exact ⟨rfl,Int.le_refl _⟩
   ·rw [if_neg hp];have hm:Xp h g<0:=by omega
    refine ⟨λ _=>?_, ?_,λ x=>up (t1 x),split1 t2 (by rw [hg];intro;omega)⟩
    ·simp only;unfold ZX;split
     ·rename_i hc;exact up (f1 hc.1)
     ·exact ⟨i,by omega,by rw [hg];exact ⟨hm,rfl,rfl⟩⟩
    ·simp only;unfold ZX;split
     ·rename_i hc
      refine split1 f2 ?_;rw [hg];intro _;have:=hc.2;simp only [Bool.true_eq_false,false_and,true_and,or_false,KV,gsgn_le] at this;exact ⟨hc.1,by omega⟩
     ·rename_i hc
      refine split1 (λ j hj hpj=>?_) ?_
      ·obtain ⟨h1,h2⟩:=f2 j hj hpj;refine ⟨rfl, ?_⟩;simp only;have h3:fr.n*ZZ h g<Kr h g*fr.d:=by
        rw [not_and] at hc;have:=hc h1;simp only [Bool.true_eq_false,false_and,true_and,or_false,KV,gsgn_le] at this;omega
       obtain ⟨j',_,hx,_,hd'⟩:=f1 h1;exact ZG (by rw [hd'];exact ZL (by omega)) (Int.le_of_lt (ZL (by omega))) (Int.le_of_lt hd) h2 (Int.le_of_lt h3)
      ·rw [hg];intro _;exact ⟨rfl,Int.le_refl _⟩
theorem Zs {l:List Half} {j:Nat} (h:j<l.length):l.getD j Xb∈l:=by
 rw [List.getD_eq_getElem?_getD,List.getElem?_eq_getElem h];exact List.getElem_mem h
theorem KY {l:List Half} {x:Half} (h:x∈l):∃ j,j<l.length/\l.getD j Xb=x:=by
 obtain ⟨j,hj,he⟩:=List.mem_iff_getElem.1 h;exact ⟨j,hj,by rw [List.getD_eq_getElem?_getD,List.getElem?_eq_getElem hj];exact he⟩
theorem edge_iff {l:List Half} (g:Zh l) {h:Half} (n:Kn h):Kj l h=true ↔ Yv Xp Ya l h:=by
 have I:=edAt_inv l h l.length;have hp:=nn2_pos n;unfold Kj edB;generalize KZ l h l.length=st at *;obtain ⟨fr,tq⟩:=st;obtain ⟨f1,f2,t1,t2⟩:=I;simp only at f1 f2 t1 t2;obtain ⟨⟨a,ha,ha'⟩,⟨b,hb,hb'⟩⟩:=g.around n;obtain ⟨ja,hja,ea⟩:=KY ha;obtain ⟨jb,hjb,eb⟩:=KY hb;have ft:=(f2 jb hjb (by rw [eb];exact hb')).1;have tt:=(t2 ja hja (by rw [ea];exact ha')).1;simp only [ft,tt,Bool.true_and,Bool.and_true,decide_eq_true_eq,KV,gsgn_lt];obtain ⟨p,hp1,hp2,hp3,hp4⟩:=f1 ft;obtain ⟨q,hq1,hq2,hq3,hq4⟩:=t1 tt;have hpd:0<fr.d:=by rw [hp4];exact ZL (by omega)
 have hqd:0<tq.d:=by rw [hq4];exact ZL (by omega)
 constructor
 ·intro hlt x hx y hy h1 h2;have h1':Xp h x<0:=by have:=Y3 x h;omega
  obtain ⟨jx,hjx,ex⟩:=KY hx;obtain ⟨jy,hjy,ey⟩:=KY hy;have k1:=(f2 jx hjx (by rw [ex];exact h1')).2;have k2:=(t2 jy hjy (by rw [ey];exact h2)).2;rw [ex] at k1;rw [ey] at k2;have dx:=ZL (h:=h) (g:=x) (by omega);have dy:=ZL (h:=h) (g:=y) (by omega);have c:=pos_cmp h1' h2;have p1:=Int.mul_le_mul_of_nonneg_right k1 (Int.le_of_lt hqd);have p2:fr.n*tq.d*ZZ h x<tq.n*fr.d*ZZ h x:=Int.mul_lt_mul_of_pos_right (by omega) dx;have e1:fr.n*ZZ h x*tq.d=fr.n*tq.d*ZZ h x:=by grind
  have e2:Kr h x*fr.d*tq.d=fr.d*(Kr h x*tq.d):=by grind
  have e3:tq.n*fr.d*ZZ h x=fr.d*(tq.n*ZZ h x):=by grind
  have s1:Kr h x*tq.d<tq.n*ZZ h x:=by
   have:0<fr.d*(tq.n*ZZ h x-Kr h x*tq.d):=by rw [Int.mul_sub];omega
   have:=gmp this hpd;omega
  have p3:Kr h x*tq.d*ZZ h y<tq.n*ZZ h x*ZZ h y:=Int.mul_lt_mul_of_pos_right s1 dy;have p4:=Int.mul_le_mul_of_nonneg_right k2 (Int.le_of_lt dx);have e4:tq.n*ZZ h y*ZZ h x=tq.n*ZZ h x*ZZ h y:=by grind
  have e5:tq.d*(Kr h y*ZZ h x-Kr h x*ZZ h y)=Kr h y*tq.d*ZZ h x-Kr h x*tq.d*ZZ h y:=by grind
  have s2:=gmp (a:=tq.d) (b:=Kr h y*ZZ h x-Kr h x*ZZ h y) (by rw [e5];omega) hqd;rw [c] at s2;exact gmp s2 hp
 ·intro E;have c:=pos_cmp hp2 hq2;have hd:=E _ (Zs hp1) _ (Zs hq1) (by have:=Y3 (l.getD p Xb) h;omega) hq2;have:=Int.mul_pos hp hd;rw [hp3,hp4,hq3,hq4];omega
theorem Zp {a b A B:Int} (ha : -A<=a/\a<=A) (hb : -B<=b/\b<=B) : -(A*B)<=a*b/\a*b<=A*B:=by
 have hA:a.natAbs<=A.natAbs:=by omega
 have hB:b.natAbs<=B.natAbs:=by omega
 have hm:=Nat.mul_le_mul hA hB;rw [<- Int.natAbs_mul,<- Int.natAbs_mul] at hm;have hAB:0<=A*B:=Int.mul_nonneg (by omega) (by omega);omega
theorem gcdAll_dvd {x y d:Int}:((Xh [x,y,d]:Nat):Int) ∣ x/\((Xh [x,y,d]:Nat):Int) ∣ y/\((Xh [x,y,d]:Nat):Int) ∣ d:=by
 rw [gcd3];have h1:=Nat.gcd_dvd_left (Nat.gcd x.natAbs y.natAbs) d.natAbs;refine ⟨?_, ?_, ?_⟩
 ·exact Int.ofNat_dvd_left.2 (Nat.dvd_trans h1 (Nat.gcd_dvd_left _ _))
 ·exact Int.ofNat_dvd_left.2 (Nat.dvd_trans h1 (Nat.gcd_dvd_right _ _))
 ·exact Int.ofNat_dvd_left.2 (Nat.gcd_dvd_right _ _)
theorem gcdAll_pos {x y d:Int} (h:d≠0):0<Xh [x,y,d]:=by
 rw [gcd3];exact Nat.gcd_pos_of_pos_right _ (by omega)
structure RedS (x y d:Int) (s:XW) (g:Int):Prop where
 pos:0<g
 x:x=g*s.x
 y:y=g*s.y
 d:d=g*s.d
theorem red_scale {x y d:Int} (h:d≠0):RedS x y d (Z9 x y d) (Xh [x,y,d]:Nat):=by
 obtain ⟨h1,h2,h3⟩:=gcdAll_dvd (x:=x) (y:=y) (d:=d);have hp:=gcdAll_pos (x:=x) (y:=y) h;refine ⟨by omega, ?_, ?_, ?_⟩
 ·exact (Int.mul_tdiv_cancel' h1).symm
 ·exact (Int.mul_tdiv_cancel' h2).symm
 ·exact (Int.mul_tdiv_cancel' h3).symm
theorem red_gcd {x y d:Int} (h:d≠0):Xh [(Z9 x y d).x,(Z9 x y d).y,(Z9 x y d).d]=1:=red3 (gcdAll_pos h)
theorem spotOf_in {x y d:Int} (hd:1<=d/\d<=5000000000) (hx : -1000*d<=x/\x<=1000*d) (hy : -1000*d<=y/\y<=1000*d):Y9 x y d=some (Z9 x y d)/\XP (Z9 x y d)=true:=by
 have r:=red_scale (x:=x) (y:=y) (d:=d) (by omega);have hg:=red_gcd (x:=x) (y:=y) (d:=d) (by omega);have ok:XP (Z9 x y d)=true:=by
  rw [ZO];generalize Z9 x y d=s at *;obtain ⟨p,e1,e2,e3⟩:=r;generalize ((Xh [x,y,d]:Nat):Int)=g at *;have d1:0<s.d:=gmp (a:=g) (by omega) p;have d2:s.d<=g*s.d:=by
   have:=Int.mul_le_mul_of_nonneg_right (show 1<=g by omega) (Int.le_of_lt d1);omega
  refine ⟨⟨by omega,by omega⟩,⟨?_, ?_⟩,⟨?_, ?_⟩,hg⟩
  ·have e:g*(s.x+1000*s.d)=x+1000*d:=by rw [e1,e3];grind
   have:=gmn (a:=g) (b:=s.x+1000*s.d) (by omega) p;omega
  ·have e:g*(1000*s.d-s.x)=1000*d-x:=by rw [e1,e3];grind
   have:=gmn (a:=g) (b:=1000*s.d-s.x) (by omega) p;omega
  ·have e:g*(s.y+1000*s.d)=y+1000*d:=by rw [e2,e3];grind
   have:=gmn (a:=g) (b:=s.y+1000*s.d) (by omega) p;omega
  ·have e:g*(1000*s.d-s.y)=1000*d-y:=by rw [e2,e3];grind
   have:=gmn (a:=g) (b:=1000*s.d-s.y) (by omega) p;omega
 refine ⟨?_,ok⟩;unfold Y9;rw [if_neg,if_pos ok];simp [Yn];omega
theorem dvd_of_gcd1 {a b c n m:Nat} (h:Nat.gcd (Nat.gcd a b) c=1) (h1:n ∣ m*a) (h2:n ∣ m*b) (h3:n ∣ m*c):n ∣ m:=by
 have h4:=Nat.dvd_gcd (Nat.dvd_gcd h1 h2) h3;rwa [Nat.gcd_mul_left,Nat.gcd_mul_left,h,Nat.mul_one] at h4
theorem red_eq {x y d x' y' d':Int} (hd:0<d) (hd':0<d'):Z9 x y d=Z9 x' y' d' ↔ x*d'=x'*d/\y*d'=y'*d:=by
 have r:=red_scale (x:=x) (y:=y) (d:=d) (by omega);have r':=red_scale (x:=x') (y:=y') (d:=d') (by omega);have g1:=red_gcd (x:=x) (y:=y) (d:=d) (by omega);have g1':=red_gcd (x:=x') (y:=y') (d:=d') (by omega);generalize Z9 x y d=s at *;generalize Z9 x' y' d'=t at *;obtain ⟨p,e1,e2,e3⟩:=r;obtain ⟨p',e1',e2',e3'⟩:=r';generalize ((Xh [x,y,d]:Nat):Int)=g at *;generalize ((Xh [x',y',d']:Nat):Int)=g' at *;constructor
 ·rintro rfl;rw [e1,e2,e3,e1',e2',e3'];exact ⟨by grind,by grind⟩
 ·rintro ⟨h1,h2⟩;have gg:g*g'≠0:=by have:=Int.mul_pos p p';omega
  have k1:s.x*t.d=t.x*s.d:=by
   have:(g*g')*(s.x*t.d-t.x*s.d)=0:=by rw [e1,e3'] at h1;rw [e1',e3] at h1;grind
   have:=gmz this gg;omega
  have k2:s.y*t.d=t.y*s.d:=by
   have:(g*g')*(s.y*t.d-t.y*s.d)=0:=by rw [e2,e3'] at h2;rw [e2',e3] at h2;grind
   have:=gmz this gg;omega
  have sd:0<s.d:=gmp (a:=g) (by omega) p;have td:0<t.d:=gmp (a:=g') (by omega) p';rw [gcd3] at g1 g1';have n1:s.x.natAbs*t.d.natAbs=t.x.natAbs*s.d.natAbs:=by rw [<- Int.natAbs_mul,<- Int.natAbs_mul,k1]
  have n2:s.y.natAbs*t.d.natAbs=t.y.natAbs*s.d.natAbs:=by rw [<- Int.natAbs_mul,<- Int.natAbs_mul,k2]
  have v1:s.d.natAbs ∣ t.d.natAbs:=dvd_of_gcd1 g1 ⟨t.x.natAbs,by rw [Nat.mul_comm,n1,Nat.mul_comm]⟩ ⟨t.y.natAbs,by rw [Nat.mul_comm,n2,Nat.mul_comm]⟩ ⟨t.d.natAbs,by rw [Nat.mul_comm]⟩;have v2:t.d.natAbs ∣ s.d.natAbs:=dvd_of_gcd1 g1' ⟨s.x.natAbs,by rw [Nat.mul_comm,<- n1,Nat.mul_comm]⟩ ⟨s.y.natAbs,by rw [Nat.mul_comm,<- n2,Nat.mul_comm]⟩ ⟨s.d.natAbs,by rw [Nat.mul_comm]⟩;have ed:s.d=t.d:=by have:=Nat.dvd_antisymm v1 v2;omega
  rw [ed] at k1 k2;have ex:=Int.eq_of_mul_eq_mul_right (show t.d≠0 by omega) k1;have ey:=Int.eq_of_mul_eq_mul_right (show t.d≠0 by omega) k2;cases s;cases t;simp only at ex ey ed;subst ex ey ed;rfl
def inPt (l:List Half) (x y d:Int):Bool:=decide (d≠0)&&decide (x<=1000*d)&&decide (-1000*d<=x)&&decide (y<=1000*d)&&decide (-1000*d<=y)&&l.all λ f=>decide (f.a*x+f.b*y<=f.c*d)
def gIn (l:List Half) (h g:Half):Bool:=inPt l (J2 h g) (J0 h g) (ZZ h g)
theorem gIn_iff {l:List Half} (gd:Zh l) {h g:Half}:gIn l h g=true ↔ GIns Xp Ya l h g:=by
 unfold gIn inPt GIns;simp only [Bool.and_eq_true,decide_eq_true_eq,List.all_eq_true];have key:Xp h g≠0->∀ f:Half,(f.a*J2 h g+f.b*J0 h g<=f.c*ZZ h g ↔ 0<=Xp h g*Ya h g f):=by
  intro h0 f;have e:=cr_in h g f;by_cases hn:Xp h g<0
  ·rw [if_pos hn] at e;constructor
   ·intro h1;exact Int.mul_nonneg_of_nonpos_of_nonpos (by omega) (by omega)
   ·intro h1;have:=gmn (a:=-Xp h g) (b:=-Ya h g f) (by rw [Int.neg_mul_neg];exact h1) (by omega);omega
  ·rw [if_neg hn] at e;constructor
   ·intro h1;exact Int.mul_nonneg (by omega) (by omega)
   ·intro h1;have:=gmn h1 (by omega);omega
 constructor
 ·rintro ⟨⟨⟨⟨⟨h0,_⟩,_⟩,_⟩,_⟩,h6⟩;have h0':Xp h g≠0:=λ e=>h0 (crD_zero e);exact ⟨h0',λ f hf=>(key h0' f).1 (h6 f hf)⟩
 ·rintro ⟨h0,h6⟩;have hd:=ZL h0;have h7:=λ f hf=>(key h0 f).2 (h6 f hf);obtain ⟨⟨a1,a2⟩,a3,a4⟩:=gd.frame h7 (by omega);exact ⟨⟨⟨⟨⟨by omega,a2⟩,a1⟩,a4⟩,a3⟩,h7⟩
abbrev P3:=Int × Int × Int
def spot0:XW:=⟨0,0,0⟩
def gDiff (p q:P3):Bool:=decide ((Y9 p.1 p.2.1 p.2.2).getD spot0≠(Y9 q.1 q.2.1 q.2.2).getD spot0)
def gPt (h g:Half):P3:=(J2 h g,J0 h g,ZZ h g)
def Km (l:List Half) (h:Half):Nat->P3 × Bool
 | 0=>((0,0,0),false)
 | i+1=>if (Km l h i).2=true then Km l h i else if gIn l h (l.getD i Xb)=false then Km l h i else if (Km l h i).1.2.2=0 then (gPt h (l.getD i Xb),false) else ((Km l h i).1,gDiff (Km l h i).1 (gPt h (l.getD i Xb)))
def ges (l:List Half) (h:Half):Bool:=(Km l h l.length).2
theorem crD_le {h g:Half} (n1:Xq h=true) (n2:Xq g=true):ZZ h g<=5000000000:=by
 rw [Zm] at n1 n2;obtain ⟨a1,b1,_⟩:=n1;obtain ⟨a2,b2,_⟩:=n2;have p:=Zp (a:=h.a) (b:=g.b) (A:=50000) (B:=50000) a1 b2;have q:=Zp (a:=h.b) (b:=g.a) (A:=50000) (B:=50000) b1 a2;unfold ZZ Xp;split<;>omega
theorem gIn_spot {l:List Half} {h g:Half} (n1:Xq h=true) (n2:Xq g=true) (hi:gIn l h g=true):Y9 (J2 h g) (J0 h g) (ZZ h g)=some (Z9 (J2 h g) (J0 h g) (ZZ h g))/\0<ZZ h g:=by
 unfold gIn inPt at hi;simp only [Bool.and_eq_true,decide_eq_true_eq] at hi;obtain ⟨⟨⟨⟨⟨h0,h1⟩,h2⟩,h3⟩,h4⟩,_⟩:=hi;have hc:Xp h g≠0:=λ e=>h0 (crD_zero e);have:=ZL hc;exact ⟨(spotOf_in ⟨by omega,crD_le n1 n2⟩ ⟨h2,h1⟩ ⟨h4,h3⟩).1,this⟩
theorem gDiff_iff {l:List Half} {h g k:Half} (n:Kn h) (n1:Xq h=true) (n2:Xq g=true) (n3:Xq k=true) (hi:gIn l h g=true) (hk:gIn l h k=true):gDiff (gPt h g) (gPt h k)=true ↔ Ya h g k≠0:=by
 obtain ⟨e1,d1⟩:=gIn_spot n1 n2 hi;obtain ⟨e2,d2⟩:=gIn_spot n1 n3 hk;unfold gDiff gPt;simp only [e1,e2,Option.getD_some,decide_eq_true_eq];have e:=same_pt (g:=g) (k:=k) n;rw [ne_eq,red_eq d1 d2,ne_eq,e]
structure EsInv (l:List Half) (h:Half) (i:Nat) (st:P3 × Bool):Prop where
 a:st.1.2.2=0->∀ j,j<i->gIn l h (l.getD j Xb)=false
 b:st.1.2.2≠0->∃ j,j<i/\gIn l h (l.getD j Xb)=true/\st.1=gPt h (l.getD j Xb)
 c:st.2=true->∃ j k,j<i/\k<i/\gIn l h (l.getD j Xb)=true/\gIn l h (l.getD k Xb)=true/\gDiff (gPt h (l.getD j Xb)) (gPt h (l.getD k Xb))=true
 d:st.2=false->∀ j,j<i->gIn l h (l.getD j Xb)=true->gDiff st.1 (gPt h (l.getD j Xb))=false
theorem esAt_inv (l:List Half) (h:Half):∀ i,EsInv l h i (Km l h i)∨((Km l h i).2=true/\∃ j k,j<i/\k<i/\gIn l h (l.getD j Xb)=true/\gIn l h (l.getD k Xb)=true/\gDiff (gPt h (l.getD j Xb)) (gPt h (l.getD k Xb))=true)
 | 0=>.inl ⟨by simp,by simp [Km],by simp [Km],by simp⟩
 | i+1=>by
  have I:=esAt_inv l h i;unfold Km;generalize Km l h i=st at *;cases hb:st.2
  ·rw [if_neg (by simp)];left;have I':EsInv l h i st:=by
    rcases I with I|I
    ·exact I
    ·rw [hb] at I;exact absurd I.1 (by simp)
   obtain ⟨a,b,c,d⟩:=I';have split1:∀ {P:Nat->Prop},(∀ j,j<i->P j)->P i->∀ j,j<i+1->P j:=λ h1 h2 j hj=>by
    rcases Nat.lt_or_ge j i with h3|h3
    ·exact h1 j h3
    ·obtain rfl:j=i:=by omega
     exact h2
   by_cases h1:gIn l h (l.getD i Xb)=false
   ·rw [if_pos h1];exact ⟨λ x=>split1 (a x) h1,λ x=>by obtain ⟨j,h2,h3⟩:=b x;exact ⟨j,by omega,h3⟩,by rw [hb];simp,λ x=>split1 (d x) (by rw [h1];simp)⟩
   ·rw [if_neg h1];have h1':gIn l h (l.getD i Xb)=true:=by simpa using h1
    by_cases h2:st.1.2.2=0
    ·rw [if_pos h2];have hcd:(gPt h (l.getD i Xb)).2.2≠0:=by
      unfold gIn inPt at h1';simp only [Bool.and_eq_true,decide_eq_true_eq] at h1';exact h1'.1.1.1.1.1
     refine ⟨λ x=>absurd x hcd,λ _=>⟨i,by omega,h1',rfl⟩,by simp,λ _=>split1 (λ j hj hx=>?_) (λ _=>by simp [gDiff])⟩;rw [a h2 j hj] at hx;cases hx
    ·rw [if_neg h2];refine ⟨λ x=>absurd x h2,λ x=>by obtain ⟨j,h2,h3⟩:=b x;exact ⟨j,by omega,h3⟩,λ x=>?_,λ x=>split1 (d hb) (λ _=>x)⟩;obtain ⟨j,h3,h4,h5⟩:=b h2;simp only at x;rw [h5] at x;exact ⟨j,i,by omega,by omega,h4,h1',x⟩
  ·rw [if_pos rfl];right;refine ⟨hb, ?_⟩;have:∃ j k,j<i/\k<i/\gIn l h (l.getD j Xb)=true/\gIn l h (l.getD k Xb)=true/\gDiff (gPt h (l.getD j Xb)) (gPt h (l.getD k Xb))=true:=by
    rcases I with I|I
    ·exact I.c hb
    ·exact I.2
   obtain ⟨j,k,h1,h2,h3⟩:=this;exact ⟨j,k,by omega,by omega,h3⟩
theorem esAt_up {l:List Half} {h:Half} {i:Nat} (hb:(Km l h i).2=true):∀ n,(Km l h (i+n)).2=true
 | 0=>hb
 | n+1=>by
  have:=esAt_up hb n;rw [<- Nat.add_assoc,Km,if_pos this];exact this
theorem ges_iff {l:List Half} (gd:Zh l) (ok:∀ f∈l,Xq f=true) {h:Half} (hh:h∈l):ges l h=true ↔ GES Xp Ya l h:=by
 have n:=gd.nz h hh;have I:=esAt_inv l h l.length;unfold ges;generalize Km l h l.length=st at *;constructor
 ·intro hb;have:∃ j k,j<l.length/\k<l.length/\gIn l h (l.getD j Xb)=true/\gIn l h (l.getD k Xb)=true/\gDiff (gPt h (l.getD j Xb)) (gPt h (l.getD k Xb))=true:=by
   rcases I with I|I
   ·exact I.c hb
   ·exact I.2
  obtain ⟨j,k,h1,h2,h3,h4,h5⟩:=this;have m1:=Zs h1;have m2:=Zs h2;exact ⟨_,m1,_,m2,(gIn_iff gd).1 h3,(gIn_iff gd).1 h4,(gDiff_iff n (ok h hh) (ok _ m1) (ok _ m2) h3 h4).1 h5⟩
 ·rintro ⟨g,hg,k,hk,i1,i2,hne⟩;cases hb:st.2
  ·exfalso;have I':EsInv l h l.length st:=by
    rcases I with I|I
    ·exact I
    ·rw [hb] at I;exact absurd I.1 (by simp)
   obtain ⟨a,b,c,d⟩:=I';obtain ⟨jg,hjg,eg⟩:=KY hg;obtain ⟨jk,hjk,ek⟩:=KY hk;have i1':=(gIn_iff gd).2 i1;have i2':=(gIn_iff gd).2 i2;have h0:st.1.2.2≠0:=by
    intro h0;have:=a h0 jg hjg;rw [eg,i1'] at this;cases this
   obtain ⟨jf,hjf,hf,ef⟩:=b h0;have mf:=Zs hjf;have dg:=d hb jg hjg (by rw [eg];exact i1');have dk:=d hb jk hjk (by rw [ek];exact i2');rw [eg,ef] at dg;rw [ek,ef] at dk;generalize l.getD jf Xb=f at *;have z1:Ya h f g=0:=by
    rcases Classical.em (Ya h f g=0) with h1|h1
    ·exact h1
    ·rw [(gDiff_iff n (ok h hh) (ok _ mf) (ok _ hg) hf i1').2 h1] at dg;cases dg
   have z2:Ya h f k=0:=by
    rcases Classical.em (Ya h f k=0) with h1|h1
    ·exact h1
    ·rw [(gDiff_iff n (ok h hh) (ok _ mf) (ok _ hk) hf i2').2 h1] at dk;cases dk
   have h4:=gom.p3 h f g k;rw [z1,z2] at h4;simp only [Int.zero_mul,Int.sub_zero,Int.zero_add] at h4;exact hne (gmz h4 ((gIn_iff gd).1 hf).1)
  ·rfl
def hroomy (g h:Half):Bool:=decide (0<g.c*XU h+h.c*XU g)
def voidAt (l:List Half) (k i:Nat):Bool:=!(decide (i=k))&&decide (Xp (l.getD k Xb) (l.getD i Xb)=0) && !hroomy (l.getD i Xb) (l.getD k Xb)
def Jh (l:List Half) (k:Nat):Bool:=(List.range l.length).any (voidAt l k)
def voidB (l:List Half):Bool:=(List.range l.length).any (Jh l)
def Xw (l:List Half):List Half:=if voidB l=true then [] else l.filter (Kj l)
def meetS (l:List Half):List Half:=if (l.filter (ges l)).length<3 then [] else l.filter (ges l)
theorem getD_inj {l:List Half} (n:l.Nodup) {i k:Nat} (hi:i<l.length) (hk:k<l.length) (h:l.getD i Xb=l.getD k Xb):i=k:=by
 rw [List.getD_eq_getElem?_getD,List.getD_eq_getElem?_getD,List.getElem?_eq_getElem hi,List.getElem?_eq_getElem hk] at h;exact (List.getElem_inj n).1 h
theorem Jv {l:List Half} (gd:Zh l):voidB l=true ↔ GVoid l:=by
 have nd:=gd.sorted.nodup;unfold voidB Jh voidAt hroomy;simp only [List.any_eq_true,List.mem_range,Bool.and_eq_true,Bool.not_eq_true',decide_eq_false_iff_not,decide_eq_true_eq];constructor
 ·rintro ⟨k,hk,i,hi,⟨h1,h2⟩,h3⟩;exact ⟨_,Zs hk,_,Zs hi,λ e=>h1 (getD_inj nd hi hk e.symm),h2,by omega⟩
 ·rintro ⟨u,hu,v,hv,hne,h2,h3⟩;obtain ⟨k,hk,ek⟩:=KY hu;obtain ⟨i,hi,ei⟩:=KY hv;refine ⟨k,hk,i,hi,⟨λ e=>hne ?_, ?_⟩, ?_⟩
  ·subst e;rw [<- ek,<- ei]
  ·rw [ek,ei];exact h2
  ·rw [ek,ei];omega
theorem meet_same {l:List Half} (gd:Zh l) (ok:∀ f∈l,Xq f=true):meetS l=Xw l:=by
 unfold meetS Xw;by_cases hv:voidB l=true
 ·rw [if_pos hv,if_pos];exact gd.void_len ((Jv gd).1 hv) _ (λ h hh hp=>(ges_iff gd ok hh).1 hp)
 ·rw [if_neg hv];have hv':¬ GVoid l:=λ h=>hv ((Jv gd).2 h);obtain ⟨h1,h2⟩:=gd.edges hv';have e:l.filter (ges l)=l.filter (Kj l):=by
   apply List.filter_congr;intro x hx;rw [Bool.eq_iff_iff,ges_iff gd ok hx,edge_iff gd (gd.nz x hx),h1 x hx]
  rw [e];rcases h2 (Kj l) (λ h hh=>edge_iff gd (gd.nz h hh)) with h3|h3
  ·rw [h3];rfl
  ·rw [if_neg (by omega)]
end Go.Proofs.YtbekjpkcicjcgabGreat
