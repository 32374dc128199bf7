/-
 The greatest value of a direction over a valid region, and the half planes of an eroded region. No program is named here.
 Conditions: none.
-/
import Derived.Test.YtabfdkpdppemaaaGreatGrR
namespace Go.Proofs.YtabfdkpdppemaaaGreat
open Go.RowKit
theorem far5B {q:XJ} {a b:Int} (hq:Xt q=true) (ha : -50000<=a/\a<=50000) (hb : -50000<=b/\b<=50000) :
 (-250000000000000000<=a*q.x/\a*q.x<=250000000000000000)/\(-250000000000000000<=b*q.y/\b*q.y<=250000000000000000)/\(1<=q.d/\q.d<=5000000000):=by
 obtain ⟨h1,h2,h3,_⟩:=Z3.1 hq;have p:=mulB (a:=a) (b:=q.x) (A:=50000) (B:=5000000000000) ⟨by omega,by omega⟩ ⟨by omega,by omega⟩;have r:=mulB (a:=b) (b:=q.y) (A:=50000) (B:=5000000000000) ⟨by omega,by omega⟩ ⟨by omega,by omega⟩;exact ⟨⟨by omega,by omega⟩,⟨by omega,by omega⟩,h1⟩
theorem far5_bd {xs:List XJ} {a b:Int} (ha : -50000<=a/\a<=50000) (hb : -50000<=b/\b<=50000) (hok:∀ j,j<xs.length->Xt (xs.getD j Yx)=true):∀ k:Nat,k<=xs.length ->
 (-1<=(Zd xs a b k).1/\(Zd xs a b k).1<(k:Int))/\(-500000000000000000<=(Zd xs a b k).2.1/\(Zd xs a b k).2.1<=500000000000000000)/\(k=0/\Zd xs a b k=(-1,0,0)∨0<k/\0<=(Zd xs a b k).1/\1<=(Zd xs a b k).2.2)/\(0<=(Zd xs a b k).2.2/\(Zd xs a b k).2.2<=5000000000)
 | 0,_=>by simp [Zd]
 | k+1,hk=>by
  obtain ⟨h1,h2,h3,h4⟩:=far5_bd ha hb hok k (by omega);obtain ⟨p1,p2,p3⟩:=far5B (hok k (by omega)) ha hb;rw [Zd];split
  ·simp only [JB,Jo];exact ⟨⟨by omega,by omega⟩,⟨by omega,by omega⟩,.inr ⟨by omega,by omega,by omega⟩,⟨by omega,by omega⟩⟩
  ·rename_i hn
   rcases h3 with ⟨rfl,h3⟩|h3
   ·exfalso;apply hn;left;rw [h3];decide
   ·exact ⟨⟨by omega,by omega⟩,h2,.inr ⟨by omega,by omega,by omega⟩,h4⟩
def J8 (p:List Half) (a b:Int):Int × Int × Int:=Zd (Xr p) a b (Xr p).length
def Kc (p:List Half) (a b:Int):Ya:=X6 (J8 p a b).2.1 (J8 p a b).2.2
theorem cor_ok {p:List Half} (hr:Xe p=true):∀ j,j<(Xr p).length->Xt ((Xr p).getD j Yx)=true:=by
 intro j hj;rw [far_get hj,corners_at p j (by rw [Zm] at hj;exact hj)];exact (reg_corner hr (by rw [Zm] at hj;exact hj)).ok
structure SupB (p:List Half) (a b:Int):Prop where
 i:0<=(J8 p a b).1
 n : -500000000000000000<=(J8 p a b).2.1/\(J8 p a b).2.1<=500000000000000000
 d:1<=(J8 p a b).2.2/\(J8 p a b).2.2<=5000000000
theorem supB {p:List Half} {a b:Int} (hr:Xe p=true) (hne:p≠[]) (ha : -50000<=a/\a<=50000) (hb : -50000<=b/\b<=50000):SupB p a b:=by
 have hl:0<(Xr p).length:=by rw [Zm];exact List.length_pos_iff.2 hne
 obtain ⟨h1,h2,h3,h4⟩:=far5_bd ha hb (cor_ok hr) (Xr p).length Xf;refine ⟨?_,h2, ?_, ?_⟩<;>unfold J8<;>omega
structure SupR (p:List Half) (a b:Int):Prop where
 ok:Xm (Kc p a b)=true
 n : -500000000000000000<=(Kc p a b).n/\(Kc p a b).n<=500000000000000000
 d:1<=(Kc p a b).d/\(Kc p a b).d<=5000000000
 g:Nat.gcd (Kc p a b).n.natAbs (Kc p a b).d.natAbs=1
theorem supR {p:List Half} {a b:Int} (hr:Xe p=true) (hne:p≠[]) (ha : -50000<=a/\a<=50000) (hb : -50000<=b/\b<=50000):SupR p a b:=by
 have B:=supB hr hne ha hb;have hn:=B.n;have hd:=B.d;obtain ⟨ok,k,hk,e1,e2⟩:=ZZ (n:=(J8 p a b).2.1) (d:=(J8 p a b).2.2) ⟨by omega,by omega⟩ ⟨by omega,by omega⟩;obtain ⟨⟨q1,_⟩,_,q3⟩:=KI.1 ok;change Xm (Kc p a b)=true at ok
 change (J8 p a b).2.1=k*(Kc p a b).n at e1
 change (J8 p a b).2.2=k*(Kc p a b).d at e2
 change 1<=(Kc p a b).d at q1
 have g1:(Kc p a b).d<=k*(Kc p a b).d:=by
  have:=Int.mul_le_mul_of_nonneg_right (show (1:Int)<=k by omega) (show (0:Int)<=(Kc p a b).d by omega);omega
 have g2 : -500000000000000000<=(Kc p a b).n/\(Kc p a b).n<=500000000000000000:=by
  rcases Int.le_total 0 (Kc p a b).n with h|h
  ·have:=Int.mul_le_mul_of_nonneg_right (show (1:Int)<=k by omega) h;constructor<;>omega
  ·have:=Int.mul_le_mul_of_nonpos_right (show (1:Int)<=k by omega) h;constructor<;>omega
 exact ⟨ok,g2,⟨q1,by omega⟩,q3⟩
theorem SupR.in_ {p:List Half} {a b:Int} (h:SupR p a b):(Kc p a b).In:=⟨⟨by have:=h.n;omega,by have:=h.n;omega⟩,⟨by have:=h.d;omega,by have:=h.d;omega⟩⟩
def Kg (p:List Half) (h:Half):Option Half:=Zy (h.a*(Kc p h.a h.b).d) (h.b*(Kc p h.a h.b).d) (h.c*(Kc p h.a h.b).d-(Kc p h.a h.b).n)
section
variable {α:Type} {X:α->α->Int} {D:α->α->α->Int} {L:List α}
theorem gfanA (o:GOM X D) (nv:GNV X D L) (ar:∀ h∈L,(∃ g∈L,0<X h g)/\(∃ g∈L,X h g<0)) {f:α}
 (hpar:∀ e∈L,Zb X D L e->X e f=0->∀ k,0<X e k->X f k<0) (ex:∃ e∈L,Zb X D L e) :
 ∃ h∈L,∃ g∈L,Zb X D L h/\Zb X D L g/\0<X h g/\(∀ k∈L,0<=D h g k)/\0<=X h f/\0<=X f g:=by
 have step1:∃ e∈L,Zb X D L e/\0<X e f:=by
  apply Classical.byContradiction;intro hno;have hle:∀ e∈L,Zb X D L e->X e f<=0:=λ e he hg=>by
   rcases glt_or 0 (X e f) with h|h
   ·exact absurd ⟨e,he,hg,h⟩ hno
   ·exact h
  by_cases hz:∃ e∈L,Zb X D L e/\X e f=0
  ·obtain ⟨e,he,hg,h0⟩:=hz;obtain ⟨g,hgm,h1,_,_,h2⟩:=gnext o nv he hg (ar e he).1;have h3:=hpar e he hg h0 g h1;have h4:=hle g hgm h2;have:=o.xa g f;omega
  ·have hlt:∀ e∈L,Zb X D L e->X e f<0:=λ e he hg=>by
    have:=hle e he hg;rcases Classical.em (X e f=0) with h|h
    ·exact absurd ⟨e,he,hg,h⟩ hz
    ·omega
   obtain ⟨e0,he0,hg0⟩:=ex;obtain ⟨m,hm,⟨hmg,hmf⟩,hmax⟩:=JU (P:=λ g=>Zb X D L g/\X g f<0) (le:=λ a b=>0<=X b a)
    (by intro a b _ _;have:=o.xa a b;omega)
    (by
     rintro a b c ⟨_,ha⟩ ⟨_,hb⟩ ⟨_,hc⟩ h1 h2;have id:=o.p2 c b a f;have t1:=Int.mul_nonneg h2 (show 0<=-X a f by omega);have t2:=Int.mul_nonneg (show 0<=-X c f by omega) h1;rcases glt_or (X c a) 0 with h|h
     ·have t3:=Int.mul_pos (show 0 < -X c a by omega) (show 0 < -X b f by omega);rw [Int.neg_mul_neg] at t3;rw [Int.mul_neg] at t1;rw [Int.neg_mul] at t2;omega
     ·exact h) L ⟨e0,he0,hg0,hlt e0 he0 hg0⟩
   obtain ⟨g,hgm,h1,_,_,h2⟩:=gnext o nv hm hmg (ar m hm).1;have:=hmax g hgm ⟨h2,hlt g hgm h2⟩;have:=o.xa m g;omega
 obtain ⟨e0,he0,hg0,hp0⟩:=step1;obtain ⟨h,hm,⟨hmg,hmf⟩,hmax⟩:=JU (P:=λ g=>Zb X D L g/\0<X g f) (le:=λ a b=>0<=X b a)
  (by intro a b _ _;have:=o.xa a b;omega)
  (by
   rintro a b c ⟨_,ha⟩ ⟨_,hb⟩ ⟨_,hc⟩ h1 h2;have id:=o.p2 c b a f;have t1:=Int.mul_nonneg h2 (show 0<=X a f by omega);have t2:=Int.mul_nonneg (show 0<=X c f by omega) h1;exact gmn (a:=X b f) (by rw [Int.mul_comm];omega) hb) L ⟨e0,he0,hg0,hp0⟩
 obtain ⟨g,hgm,h1,hin,_,h2⟩:=gnext o nv hm hmg (ar h hm).1;refine ⟨h,hm,g,hgm,hmg,h2,h1,hin,by omega, ?_⟩;rcases glt_or 0 (X g f) with hq|hq
 ·have:=hmax g hgm ⟨h2,hq⟩;have:=o.xa h g;omega
 ·have:=o.xa f g;omega
end
theorem gsgn_pos {x:Int}:0<sgn x ↔ 0<x:=by unfold sgn;split<;>(try split)<;>omega
theorem far_max {xs:List XJ} {a b:Int} (hok:∀ j,j<xs.length->1<=(xs.getD j Yx).d):∀ k:Nat,k<=xs.length->(k=0∨1<=(Zd xs a b k).2.2/\0<=(Zd xs a b k).1)/\∀ j,j<k->JB xs a b j*(Zd xs a b k).2.2<=(Zd xs a b k).2.1*Jo xs j
 | 0,_=>⟨.inl rfl,λ j h=>by omega⟩
 | k+1,hk=>by
  obtain ⟨h1,h2⟩:=far_max (a:=a) (b:=b) hok k (by omega);have hd:1<=Jo xs k:=hok k (by omega);by_cases hc:(Zd xs a b k).1<0∨0<J3 (JB xs a b k) (Jo xs k) (Zd xs a b k).2.1 (Zd xs a b k).2.2
  ·rw [farAt_yes hc];refine ⟨.inr ⟨hd,by simp only;omega⟩,λ j hj=>?_⟩;simp only;by_cases hjk:j=k
   ·subst hjk;exact Int.le_refl _
   ·have h3:=h2 j (by omega);rcases h1 with h1|⟨h1,h0⟩
    ·omega
    ·have hp:0<J3 (JB xs a b k) (Jo xs k) (Zd xs a b k).2.1 (Zd xs a b k).2.2:=by
      rcases hc with hc|hc
      ·omega
      ·exact hc
     have hq:0<JB xs a b k*(Zd xs a b k).2.2-(Zd xs a b k).2.1*Jo xs k:=by
      unfold J3 at hp;exact gsgn_pos.1 hp
     have hj1:1<=Jo xs j:=hok j (by omega);exact KL (c:=(Zd xs a b k).2.1) (d:=(Zd xs a b k).2.2) (by omega) (by omega) (by omega) h3 (by omega)
  ·rw [farAt_no hc];have hk0:k≠0:=by
    rintro rfl;apply hc;left;simp [Zd]
   refine ⟨.inr (by rcases h1 with h1|h1;exact absurd h1 hk0;exact h1),λ j hj=>?_⟩;by_cases hjk:j=k
   ·subst hjk;have hq:¬ 0<JB xs a b j*(Zd xs a b j).2.2-(Zd xs a b j).2.1*Jo xs j:=λ h=>hc (.inr (by unfold J3;exact gsgn_pos.2 h));omega
   ·exact h2 j (by omega)
theorem fan_val {h g f:Half} {sx sy sd x y d:Int} (hx:0<Xz h g) (h1:0<=Xz h f) (h2:0<=Xz f g) (_:0<d) (hsd:0<sd)
 (s1:h.a*sx+h.b*sy=h.c*sd) (s2:g.a*sx+g.b*sy=g.c*sd) (p1:YA h x y d) (p2:YA g x y d) :
 (f.a*x+f.b*y)*sd<=(f.a*sx+f.b*sy)*d:=by
 unfold YA at p1 p2;have e1:Xz h g*(f.a*x+f.b*y)=Xz f g*(h.a*x+h.b*y)+Xz h f*(g.a*x+g.b*y):=by
  simp only [Xz];grind
 have e2:Xz h g*(f.a*sx+f.b*sy)=Xz f g*(h.c*sd)+Xz h f*(g.c*sd):=by
  rw [<- s1,<- s2];simp only [Xz];grind
 have m1:=Int.mul_le_mul_of_nonneg_left p1 h2;have m2:=Int.mul_le_mul_of_nonneg_left p2 h1;have m3:=Int.mul_le_mul_of_nonneg_right (Int.add_le_add m1 m2) (show 0<=sd by omega);rw [<- e1] at m3;have e3:(Xz f g*(h.c*d)+Xz h f*(g.c*d))*sd=Xz h g*((f.a*sx+f.b*sy)*d):=by
  rw [<- Int.mul_assoc (Xz h g),e2];grind
 rw [e3,Int.mul_assoc] at m3;exact Int.le_of_mul_le_mul_left m3 hx
theorem det_at {h k g:Half} {sx sy sd:Int} (s1:h.a*sx+h.b*sy=h.c*sd) (s2:k.a*sx+k.b*sy=k.c*sd):YN h k g*sd=Xz h k*(g.c*sd-(g.a*sx+g.b*sy)):=by
 have:YN h k g*sd=g.c*sd*Xz h k-g.a*((h.c*sd)*k.b-(k.c*sd)*h.b)-g.b*(h.a*(k.c*sd)-k.a*(h.c*sd)):=by
  simp only [YN,Xz];grind
 rw [this,<- s1,<- s2];simp only [Xz];grind
theorem sup_ge {p:List Half} (hr:Xe p=true) (hne:p≠[]) {a b:Int} (ha : -50000<=a/\a<=50000) (hb : -50000<=b/\b<=50000) {x y d:Int} (hd:0<d) (hp:∀ e∈p,YA e x y d) :
 (a*x+b*y)*(Kc p a b).d<=(Kc p a b).n*d:=by
 have hok:=cor_ok hr;have hd1:∀ j,j<(Xr p).length->1<=((Xr p).getD j Yx).d:=λ j hj=>(Z3.1 (hok j hj)).1.1;obtain ⟨_,hmax⟩:=far_max (a:=a) (b:=b) hd1 (Xr p).length Xf;have B:=supB hr hne ha hb;have hl:=List.length_pos_iff.2 hne;have key:∃ i,i<p.length/\(a*x+b*y)*(crossS (p.getD i Xd) (nxt p i)).d<=(a*(crossS (p.getD i Xd) (nxt p i)).x+b*(crossS (p.getD i Xd) (nxt p i)).y)*d:=by
  by_cases h0:a=0/\b=0
  ·refine ⟨0,hl, ?_⟩;rw [h0.1,h0.2];simp
  ·obtain ⟨_,hpok,hm⟩:=(reg_iff hr).resolve_left hne;have gd:=Z5 hpok;have hne2:XR (Xq p)≠[]:=by rw [hm];exact hne
   have nv:=gd.nv (meetI_nv gd hne2);have hedge:∀ e,e∈Xq p->Zb Xz YN (Xq p) e->e∈p:=λ e h1 h2=>hm ▸ mem_meetI gd hne2 h1 h2;have hsub:∀ f∈p,f∈Xq p:=λ f hf=>(Kk gd (by rw [hm];exact hf)).1;have hed:∀ f∈p,Zb Xz YN (Xq p) f:=λ f hf=>(Kk gd (by rw [hm];exact hf)).2;have ar:∀ h∈Xq p,(∃ g∈Xq p,0<Xz h g)/\(∃ g∈Xq p,Xz h g<0):=λ h hh=>gd.around (gd.nz h hh);have ex:=meetI_ex gd hne2;have fan:∃ h∈p,∃ g∈p,0<Xz h g/\(∀ k∈Xq p,0<=YN h g k)/\0<=Xz h ⟨a,b,0⟩/\0<=Xz ⟨a,b,0⟩ g:=by
    by_cases hs:∃ e∈Xq p,Zb Xz YN (Xq p) e/\Xz e ⟨a,b,0⟩=0/\∃ k,0<Xz e k/\0<=Xz ⟨a,b,0⟩ k
    ·obtain ⟨e,he,hg,h1,k,hk1,hk2⟩:=hs;obtain ⟨g,hgm,g1,g2,_,g4⟩:=gnext gom nv he hg (ar e he).1;refine ⟨e,hedge e he hg,g,hedge g hgm g4,g1,g2,by omega, ?_⟩;have id:=gom.p2 e k ⟨a,b,0⟩ g;rw [h1] at id;simp only [Int.zero_mul,Int.sub_zero] at id;have x1:=gom.xa k ⟨a,b,0⟩;have t1:=Int.mul_nonneg (show 0<=Xz e g by omega) hk2;have t2:Xz e g*Xz k ⟨a,b,0⟩ = -(Xz e g*Xz ⟨a,b,0⟩ k):=by rw [x1,Int.mul_neg]
     rcases glt_or (Xz ⟨a,b,0⟩ g) 0 with h|h
     ·have t3:=Int.mul_pos hk1 (show 0 < -Xz ⟨a,b,0⟩ g by omega);rw [Int.mul_neg] at t3;omega
     ·exact h
    ·obtain ⟨h,hm',g,hgm,e1,e2,e3,e4,e5,e6⟩:=gfanA gom nv ar (f:=⟨a,b,0⟩) (λ e he hg h0 k hk=>by
      rcases glt_or (Xz ⟨a,b,0⟩ k) 0 with h|h
      ·exact h
      ·exact absurd ⟨e,he,hg,h0,k,hk,h⟩ hs) ex
     exact ⟨h,hedge h hm' e1,g,hedge g hgm e2,e3,e4,e5,e6⟩
   obtain ⟨h,hh,g,hg,x1,x2,x3,x4⟩:=fan;obtain ⟨i,hi,ei⟩:=gmem_get hh;have C:=reg_corner hr hi;have nx:=(nxt_edge gd hne2 (i:=i) (by rw [hm];exact hi)).2;rw [hm] at nx;refine ⟨i,hi, ?_⟩;have hsd:0<(crossS (p.getD i Xd) (nxt p i)).d:=by have:=(Z3.1 C.ok).1.1;omega
   rw [ei] at C nx hsd ⊢;have q1:=x2 _ (hsub _ (nxt_mem (p:=p) (i:=i) hi));have q2:=nx g (hsub g hg);have q3:YN h (nxt p i) g = -YN h g (nxt p i):=by
    have:=gom.da h (nxt p i) g;have:=gom.dc h g (nxt p i);have:=gom.dc g (nxt p i) h;have:=gom.dc (nxt p i) h g;omega
   have q4:YN h (nxt p i) g=0:=by omega
   have q5:=det_at (g:=g) C.on1 C.on2;rw [q4,Int.zero_mul] at q5;have q6:=(Int.mul_eq_zero.1 q5.symm).resolve_left (by have:=C.turn;omega);exact fan_val (f:=⟨a,b,0⟩) x1 x3 x4 hd hsd C.on1 (by omega) (hp h hh) (hp g hg)
 obtain ⟨i,hi,hv⟩:=key;have hm:=hmax i (by rw [Zm];exact hi);have hdi:=hd1 i (by rw [Zm];exact hi);have hget:(Xr p).getD i Yx=crossS (p.getD i Xd) (nxt p i):=by
  rw [far_get (by rw [Zm];exact hi),corners_at p i hi]
 simp only [JB,Jo] at hm;change _*(J8 p a b).2.2<=(J8 p a b).2.1*_ at hm
 rw [hget] at hm hdi;have hn:=B.n;have hdd:=B.d;have tot:=KL (a:=a*x+b*y) (b:=d) (e:=(J8 p a b).2.1) (f:=(J8 p a b).2.2) (show 0<(crossS (p.getD i Xd) (nxt p i)).d by omega) (by omega) (by omega) hv hm;obtain ⟨ok,k,hk,e1,e2⟩:=ZZ (n:=(J8 p a b).2.1) (d:=(J8 p a b).2.2) ⟨by omega,by omega⟩ ⟨by omega,by omega⟩;change (J8 p a b).2.1=k*(Kc p a b).n at e1
 change (J8 p a b).2.2=k*(Kc p a b).d at e2
 rw [e1,e2] at tot;have t2:k*((a*x+b*y)*(Kc p a b).d)<=k*((Kc p a b).n*d):=by
  have r1:(a*x+b*y)*(k*(Kc p a b).d)=k*((a*x+b*y)*(Kc p a b).d):=by grind
  have r2:k*(Kc p a b).n*d=k*((Kc p a b).n*d):=by rw [Int.mul_assoc]
  omega
 exact Int.le_of_mul_le_mul_left t2 hk
def slk (x y d:Int) (f:Half):Int:=f.c*d-(f.a*x+f.b*y)
theorem det_slk (x y d:Int) (g h k:Half):YN g h k*d=Xz g h*slk x y d k-Xz g k*slk x y d h+Xz h k*slk x y d g:=by
 simp only [YN,Xz,slk];grind
theorem edge_exists {L:List Half} (gd:ZX L) {x y d:Int} (hd:0<d) (hst:∀ f∈L,0<slk x y d f):∃ e∈L,Zb Xz YN L e:=by
 have hex:∃ e∈L,0<e.a:=by
  obtain ⟨e,he,hx⟩:=(gd.around (h:=⟨0,1,0⟩) (by unfold Jv;simp)).2;refine ⟨e,he, ?_⟩;simp only [Xz] at hx;omega
 obtain ⟨h,hh,hp,hmin⟩:=JU (P:=λ f:Half=>0<f.a/\0<slk x y d f) (le:=λ a b=>b.a*slk x y d a-a.a*slk x y d b<0∨(b.a*slk x y d a-a.a*slk x y d b=0/\0<=Xz a b))
  (by
   intro a b _ _;have:=ZM a b;omega)
  (by
   rintro a b c ⟨ha,sa⟩ ⟨hb,sb⟩ ⟨hc,sc⟩ h1 h2;have id:b.a*(c.a*slk x y d a-a.a*slk x y d c)=c.a*(b.a*slk x y d a-a.a*slk x y d b)+a.a*(c.a*slk x y d b-b.a*slk x y d c):=by grind
   have idx:b.a*Xz a c=c.a*Xz a b+a.a*Xz b c:=by simp only [Xz];grind
   generalize slk x y d a=s1 at *;generalize slk x y d b=s2 at *;generalize slk x y d c=s3 at *;generalize b.a*s1-a.a*s2=r1 at *;generalize c.a*s2-b.a*s3=r2 at *;generalize c.a*s1-a.a*s3=r3 at *;rcases h1 with h1|⟨h1,k1⟩<;>rcases h2 with h2|⟨h2,k2⟩
   ·left;have m1:=Int.mul_pos hc (show 0 < -r1 by omega);have m2:=Int.mul_pos ha (show 0 < -r2 by omega);rw [Int.mul_neg] at m1 m2;rcases glt_or r3 0 with q|q
    ·exact q
    ·have:=Int.mul_nonneg (show 0<=b.a by omega) q;omega
   ·left;have m1:=Int.mul_pos hc (show 0 < -r1 by omega);rw [Int.mul_neg] at m1;rw [h2,Int.mul_zero] at id;rcases glt_or r3 0 with q|q
    ·exact q
    ·have:=Int.mul_nonneg (show 0<=b.a by omega) q;omega
   ·left;have m2:=Int.mul_pos ha (show 0 < -r2 by omega);rw [Int.mul_neg] at m2;rw [h1,Int.mul_zero] at id;rcases glt_or r3 0 with q|q
    ·exact q
    ·have:=Int.mul_nonneg (show 0<=b.a by omega) q;omega
   ·right;rw [h1,h2,Int.mul_zero,Int.mul_zero] at id;have e0:=(Int.mul_eq_zero.1 id).resolve_left (by omega);refine ⟨e0, ?_⟩;have m1:=Int.mul_nonneg (show 0<=c.a by omega) k1;have m2:=Int.mul_nonneg (show 0<=a.a by omega) k2;exact gmn (a:=b.a) (by omega) hb) L (by
   obtain ⟨e,he,ha⟩:=hex;exact ⟨e,he,ha,hst e he⟩)
 obtain ⟨ha,hs⟩:=hp;refine ⟨h,hh,λ g hg k hk x1 x2=>?_⟩;have sg:∀ f∈L,0<=h.a*slk x y d f-f.a*slk x y d h/\(h.a*slk x y d f-f.a*slk x y d h=0->0<=Xz h f):=by
  intro f hf;have sf:=hst f hf;rcases glt_or 0 f.a with q|q
  ·have:=hmin f hf ⟨q,sf⟩;constructor
   ·omega
   ·intro e;omega
  ·have m1:=Int.mul_pos ha sf;have m2:=Int.mul_nonneg (show 0<=-f.a by omega) (show 0<=slk x y d h by omega);rw [Int.neg_mul] at m2;constructor
   ·omega
   ·intro e;omega
 have id:YN g h k*(d*h.a)=Xz g h*(h.a*slk x y d k-k.a*slk x y d h)+Xz h k*(h.a*slk x y d g-g.a*slk x y d h):=by
  rw [<- Int.mul_assoc,det_slk];have:Xz g k*h.a=Xz g h*k.a+Xz h k*g.a:=by simp only [Xz];grind
  generalize slk x y d g=s1 at *;generalize slk x y d h=s2 at *;generalize slk x y d k=s3 at *;generalize Xz g h=c1 at *;generalize Xz h k=c2 at *;generalize Xz g k=c3 at *;grind
 obtain ⟨u1,u2⟩:=sg g hg;obtain ⟨v1,_⟩:=sg k hk;have hg0:0<h.a*slk x y d g-g.a*slk x y d h:=by
  rcases Classical.em (h.a*slk x y d g-g.a*slk x y d h=0) with q|q
  ·have:=u2 q;have:=ZM g h;omega
  ·omega
 have m1:=Int.mul_nonneg (show 0<=Xz g h by omega) v1;have m2:=Int.mul_pos x2 hg0;have m3:0<(d*h.a)*YN g h k:=by rw [Int.mul_comm];omega
 exact gmp m3 (Int.mul_pos hd ha)
theorem nvoid_of {L:List Half} (gd:ZX L) {x y d:Int} (hst:∀ f∈L,0<slk x y d f) (hd:0<d):¬ GVoid L:=by
 rintro ⟨u,hu,v,hv,hne,hx,hno⟩;obtain ⟨_,h1,h2⟩:=gd.opp hu hv hne hx;have pu:=Zf (gd.nz u hu);have pv:=Zf (gd.nz v hv);have m1:=Int.mul_pos pv (hst u hu);have m2:=Int.mul_pos pu (hst v hv);have id:Ye v*slk x y d u+Ye u*slk x y d v=(u.c*Ye v+v.c*Ye u)*d:=by
  unfold slk;have e1:Ye v*(u.c*d-(u.a*x+u.b*y))=Ye v*u.c*d-(u.a*Ye v*x+u.b*Ye v*y):=by grind
  rw [e1,h1,h2];grind
 exact hno (gmp (a:=d) (by rw [Int.mul_comm];omega) hd)
end Go.Proofs.YtabfdkpdppemaaaGreat
