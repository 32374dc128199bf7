/-
 The greatest value of a direction over a valid region, and the half planes of an eroded region. No program is named here.
 Conditions: none.
-/
import Derived.Test.YtabfdkpdppemaaaGreatGrR
import Derived.Test.YtabfdkpdppemaaaGreatCopy
namespace Go.Proofs.YtabfdkpdppemaaaGreat
open Go.RowKit
theorem far5B {q:Xz} {a b:Int} (hq:XA q=true) (ha : -50000<=a/\a<=50000) (hb : -50000<=b/\b<=50000) :
 (-250000000000000000<=a*q.x/\a*q.x<=250000000000000000)/\(-250000000000000000<=b*q.y/\b*q.y<=250000000000000000)/\(1<=q.d/\q.d<=5000000000):=by
 obtain ⟨h1,h2,h3,_⟩:=ZQ.1 hq;have p:=mulB (a:=a) (b:=q.x) (A:=50000) (B:=5000000000000) ⟨by omega,by omega⟩ ⟨by omega,by omega⟩;have r:=mulB (a:=b) (b:=q.y) (A:=50000) (B:=5000000000000) ⟨by omega,by omega⟩ ⟨by omega,by omega⟩;exact ⟨⟨by omega,by omega⟩,⟨by omega,by omega⟩,h1⟩
theorem far5_bd {xs:List Xz} {a b:Int} (ha : -50000<=a/\a<=50000) (hb : -50000<=b/\b<=50000) (hok:∀ j,j<xs.length->XA (xs.getD j JH)=true):∀ k:Nat,k<=xs.length ->
 (-1<=(Ys xs a b k).1/\(Ys xs a b k).1<(k:Int))/\(-500000000000000000<=(Ys xs a b k).2.1/\(Ys xs a b k).2.1<=500000000000000000)/\(k=0/\Ys xs a b k=(-1,0,0)∨0<k/\0<=(Ys xs a b k).1/\1<=(Ys xs a b k).2.2)/\(0<=(Ys xs a b k).2.2/\(Ys xs a b k).2.2<=5000000000)
 | 0,_=>by simp [Ys]
 | k+1,hk=>by
  obtain ⟨h1,h2,h3,h4⟩:=far5_bd ha hb hok k (by omega);obtain ⟨p1,p2,p3⟩:=far5B (hok k (by omega)) ha hb;rw [Ys];split
  ·simp only [KB,Kn];exact ⟨⟨by omega,by omega⟩,⟨by omega,by omega⟩,.inr ⟨by omega,by omega,by omega⟩,⟨by omega,by omega⟩⟩
  ·rename_i hn
   rcases h3 with ⟨rfl,h3⟩|h3
   ·exfalso;apply hn;left;rw [h3];decide
   ·exact ⟨⟨by omega,by omega⟩,h2,.inr ⟨by omega,by omega,by omega⟩,h4⟩
def Jp (p:List Half) (a b:Int):Int × Int × Int:=Ys (X7 p) a b (X7 p).length
def Jz (p:List Half) (a b:Int):Y3:=XG (Jp p a b).2.1 (Jp p a b).2.2
theorem cor_ok {p:List Half} (hr:Xl p=true):∀ j,j<(X7 p).length->XA ((X7 p).getD j JH)=true:=by
 intro j hj;rw [far_get hj,corners_at p j (by rw [Y6] at hj;exact hj)];exact (JJ hr (by rw [Y6] at hj;exact hj)).ok
structure SupB (p:List Half) (a b:Int):Prop where
 i:0<=(Jp p a b).1
 n : -500000000000000000<=(Jp p a b).2.1/\(Jp p a b).2.1<=500000000000000000
 d:1<=(Jp p a b).2.2/\(Jp p a b).2.2<=5000000000
theorem supB {p:List Half} {a b:Int} (hr:Xl p=true) (hne:p≠[]) (ha : -50000<=a/\a<=50000) (hb : -50000<=b/\b<=50000):SupB p a b:=by
 have hl:0<(X7 p).length:=by rw [Y6];exact List.length_pos_iff.2 hne
 obtain ⟨h1,h2,h3,h4⟩:=far5_bd ha hb (cor_ok hr) (X7 p).length Xt;refine ⟨?_,h2, ?_, ?_⟩<;>unfold Jp<;>omega
structure SupR (p:List Half) (a b:Int):Prop where
 ok:Xy (Jz p a b)=true
 n : -500000000000000000<=(Jz p a b).n/\(Jz p a b).n<=500000000000000000
 d:1<=(Jz p a b).d/\(Jz p a b).d<=5000000000
 g:Nat.gcd (Jz p a b).n.natAbs (Jz p a b).d.natAbs=1
theorem supR {p:List Half} {a b:Int} (hr:Xl p=true) (hne:p≠[]) (ha : -50000<=a/\a<=50000) (hb : -50000<=b/\b<=50000):SupR p a b:=by
 have B:=supB hr hne ha hb;have hn:=B.n;have hd:=B.d;obtain ⟨ok,k,hk,e1,e2⟩:=ZR (n:=(Jp p a b).2.1) (d:=(Jp p a b).2.2) ⟨by omega,by omega⟩ ⟨by omega,by omega⟩;obtain ⟨⟨q1,_⟩,_,q3⟩:=KO.1 ok;change Xy (Jz p a b)=true at ok
 change (Jp p a b).2.1=k*(Jz p a b).n at e1
 change (Jp p a b).2.2=k*(Jz p a b).d at e2
 change 1<=(Jz p a b).d at q1
 have g1:(Jz p a b).d<=k*(Jz p a b).d:=by
  have:=Int.mul_le_mul_of_nonneg_right (show (1:Int)<=k by omega) (show (0:Int)<=(Jz p a b).d by omega);omega
 have g2 : -500000000000000000<=(Jz p a b).n/\(Jz p a b).n<=500000000000000000:=by
  rcases Int.le_total 0 (Jz p a b).n with h|h
  ·have:=Int.mul_le_mul_of_nonneg_right (show (1:Int)<=k by omega) h;constructor<;>omega
  ·have:=Int.mul_le_mul_of_nonpos_right (show (1:Int)<=k by omega) h;constructor<;>omega
 exact ⟨ok,g2,⟨q1,by omega⟩,q3⟩
theorem SupR.in_ {p:List Half} {a b:Int} (h:SupR p a b):(Jz p a b).In:=⟨⟨by have:=h.n;omega,by have:=h.n;omega⟩,⟨by have:=h.d;omega,by have:=h.d;omega⟩⟩
def Zj (p:List Half) (h:Half):Option Half:=YN (h.a*(Jz p h.a h.b).d) (h.b*(Jz p h.a h.b).d) (h.c*(Jz p h.a h.b).d-(Jz p h.a h.b).n)
section
variable {α:Type} {X:α->α->Int} {D:α->α->α->Int} {L:List α}
end
def J7 (x y d:Int) (f:Half):Int:=f.c*d-(f.a*x+f.b*y)
theorem det_slk (x y d:Int) (g h k:Half):Yj g h k*d=Xj g h*J7 x y d k-Xj g k*J7 x y d h+Xj h k*J7 x y d g:=by
 simp only [Yj,Xj,J7];grind
theorem edge_exists {L:List Half} (gd:Y8 L) {x y d:Int} (hd:0<d) (hst:∀ f∈L,0<J7 x y d f):∃ e∈L,Yg Xj Yj L e:=by
 have hex:∃ e∈L,0<e.a:=by
  obtain ⟨e,he,hx⟩:=(gd.around (h:=⟨0,1,0⟩) (by unfold Kf;simp)).2;refine ⟨e,he, ?_⟩;simp only [Xj] at hx;omega
 obtain ⟨h,hh,hp,hmin⟩:=Kz (P:=λ f:Half=>0<f.a/\0<J7 x y d f) (le:=λ a b=>b.a*J7 x y d a-a.a*J7 x y d b<0∨(b.a*J7 x y d a-a.a*J7 x y d b=0/\0<=Xj a b))
  (by
   intro a b _ _;have:=YH a b;omega)
  (by
   rintro a b c ⟨ha,sa⟩ ⟨hb,sb⟩ ⟨hc,sc⟩ h1 h2;have id:b.a*(c.a*J7 x y d a-a.a*J7 x y d c)=c.a*(b.a*J7 x y d a-a.a*J7 x y d b)+a.a*(c.a*J7 x y d b-b.a*J7 x y d c):=by grind
   have idx:b.a*Xj a c=c.a*Xj a b+a.a*Xj b c:=by simp only [Xj];grind
   generalize J7 x y d a=s1 at *;generalize J7 x y d b=s2 at *;generalize J7 x y d c=s3 at *;generalize b.a*s1-a.a*s2=r1 at *;generalize c.a*s2-b.a*s3=r2 at *;generalize c.a*s1-a.a*s3=r3 at *;rcases h1 with h1|⟨h1,k1⟩<;>rcases h2 with h2|⟨h2,k2⟩
   ·left;have m1:=Int.mul_pos hc (show 0 < -r1 by omega);have m2:=Int.mul_pos ha (show 0 < -r2 by omega);rw [Int.mul_neg] at m1 m2;rcases Ji r3 0 with q|q
    ·exact q
    ·have:=Int.mul_nonneg (show 0<=b.a by omega) q;omega
   ·left;have m1:=Int.mul_pos hc (show 0 < -r1 by omega);rw [Int.mul_neg] at m1;rw [h2,Int.mul_zero] at id;rcases Ji r3 0 with q|q
    ·exact q
    ·have:=Int.mul_nonneg (show 0<=b.a by omega) q;omega
   ·left;have m2:=Int.mul_pos ha (show 0 < -r2 by omega);rw [Int.mul_neg] at m2;rw [h1,Int.mul_zero] at id;rcases Ji r3 0 with q|q
    ·exact q
    ·have:=Int.mul_nonneg (show 0<=b.a by omega) q;omega
   ·right;rw [h1,h2,Int.mul_zero,Int.mul_zero] at id;have e0:=(Int.mul_eq_zero.1 id).resolve_left (by omega);refine ⟨e0, ?_⟩;have m1:=Int.mul_nonneg (show 0<=c.a by omega) k1;have m2:=Int.mul_nonneg (show 0<=a.a by omega) k2;exact gmn (a:=b.a) (by omega) hb) L (by
   obtain ⟨e,he,ha⟩:=hex;exact ⟨e,he,ha,hst e he⟩)
 obtain ⟨ha,hs⟩:=hp;refine ⟨h,hh,λ g hg k hk x1 x2=>?_⟩;have sg:∀ f∈L,0<=h.a*J7 x y d f-f.a*J7 x y d h/\(h.a*J7 x y d f-f.a*J7 x y d h=0->0<=Xj h f):=by
  intro f hf;have sf:=hst f hf;rcases Ji 0 f.a with q|q
  ·have:=hmin f hf ⟨q,sf⟩;constructor
   ·omega
   ·intro e;omega
  ·have m1:=Int.mul_pos ha sf;have m2:=Int.mul_nonneg (show 0<=-f.a by omega) (show 0<=J7 x y d h by omega);rw [Int.neg_mul] at m2;constructor
   ·omega
   ·intro e;omega
 have id:Yj g h k*(d*h.a)=Xj g h*(h.a*J7 x y d k-k.a*J7 x y d h)+Xj h k*(h.a*J7 x y d g-g.a*J7 x y d h):=by
  rw [<- Int.mul_assoc,det_slk];have:Xj g k*h.a=Xj g h*k.a+Xj h k*g.a:=by simp only [Xj];grind
  generalize J7 x y d g=s1 at *;generalize J7 x y d h=s2 at *;generalize J7 x y d k=s3 at *;generalize Xj g h=c1 at *;generalize Xj h k=c2 at *;generalize Xj g k=c3 at *;grind
 obtain ⟨u1,u2⟩:=sg g hg;obtain ⟨v1,_⟩:=sg k hk;have hg0:0<h.a*J7 x y d g-g.a*J7 x y d h:=by
  rcases Classical.em (h.a*J7 x y d g-g.a*J7 x y d h=0) with q|q
  ·have:=u2 q;have:=YH g h;omega
  ·omega
 have m1:=Int.mul_nonneg (show 0<=Xj g h by omega) v1;have m2:=Int.mul_pos x2 hg0;have m3:0<(d*h.a)*Yj g h k:=by rw [Int.mul_comm];omega
 exact gmp m3 (Int.mul_pos hd ha)
theorem nvoid_of {L:List Half} (gd:Y8 L) {x y d:Int} (hst:∀ f∈L,0<J7 x y d f) (hd:0<d):¬ GVoid L:=by
 rintro ⟨u,hu,v,hv,hne,hx,hno⟩;obtain ⟨_,h1,h2⟩:=gd.opp hu hv hne hx;have pu:=Ym (gd.nz u hu);have pv:=Ym (gd.nz v hv);have m1:=Int.mul_pos pv (hst u hu);have m2:=Int.mul_pos pu (hst v hv);have id:XL v*J7 x y d u+XL u*J7 x y d v=(u.c*XL v+v.c*XL u)*d:=by
  unfold J7;have e1:XL v*(u.c*d-(u.a*x+u.b*y))=XL v*u.c*d-(u.a*XL v*x+u.b*XL v*y):=by grind
  rw [e1,h1,h2];grind
 exact hno (gmp (a:=d) (by rw [Int.mul_comm];omega) hd)
end Go.Proofs.YtabfdkpdppemaaaGreat
