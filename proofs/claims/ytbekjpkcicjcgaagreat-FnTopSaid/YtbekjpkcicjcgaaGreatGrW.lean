/-
 The greatest value of a direction over a valid region, and the half planes of an eroded region. No program is named here.
 Conditions: none.
-/
import Derived.Test.YtbekjpkcicjcgaaGreatGrR
namespace Go.Proofs.YtbekjpkcicjcgaaGreat
open Go.RowKit
theorem far5B {q:XH} {a b:Int} (hq:Xo q=true) (ha : -50000<=a/\a<=50000) (hb : -50000<=b/\b<=50000) :
 (-250000000000000000<=a*q.x/\a*q.x<=250000000000000000)/\(-250000000000000000<=b*q.y/\b*q.y<=250000000000000000)/\(1<=q.d/\q.d<=5000000000):=by
 obtain ⟨h1,h2,h3,_⟩:=ZF.1 hq;have p:=JE (a:=a) (b:=q.x) (A:=50000) (B:=5000000000000) ⟨Oz,Oz⟩ ⟨Oz,Oz⟩;have r:=JE (a:=b) (b:=q.y) (A:=50000) (B:=5000000000000) ⟨Oz,Oz⟩ ⟨Oz,Oz⟩;exact ⟨⟨Oz,Oz⟩,⟨Oz,Oz⟩,h1⟩
theorem far5_bd {xs:List XH} {a b:Int} (ha : -50000<=a/\a<=50000) (hb : -50000<=b/\b<=50000) (hok:∀ j,j<xs.length->Xo (xs.getD j Yi)=true):∀ k:Nat,k<=xs.length ->
 (-1<=(YN xs a b k).1/\(YN xs a b k).1<(k:Int))/\(-500000000000000000<=(YN xs a b k).2.1/\(YN xs a b k).2.1<=500000000000000000)/\(k=0/\YN xs a b k=(-1,0,0)∨0<k/\0<=(YN xs a b k).1/\1<=(YN xs a b k).2.2)/\(0<=(YN xs a b k).2.2/\(YN xs a b k).2.2<=5000000000)
 | 0,_=>by simp [YN]
 | k+1,hk=>by
  obtain ⟨h1,h2,h3,h4⟩:=far5_bd ha hb hok k Oz;obtain ⟨p1,p2,p3⟩:=far5B (hok k Oz) ha hb;rw [YN];split
  ·simp only [K4,KQ];exact ⟨⟨Oz,Oz⟩,⟨Oz,Oz⟩,.inr ⟨Oz,Oz,Oz⟩,⟨Oz,Oz⟩⟩
  ·rename_i hn
   rcases h3 with ⟨rfl,h3⟩|h3
   ·exfalso;apply hn;left;rw [h3];decide
   ·exact ⟨⟨Oz,Oz⟩,h2,.inr ⟨Oz,Oz,Oz⟩,h4⟩
def Jw (p:List Half) (a b:Int):Int × Int × Int:=YN (Xj p) a b (Xj p).length
def ZS (p:List Half) (a b:Int):XW:=XT (Jw p a b).2.1 (Jw p a b).2.2
theorem cor_ok {p:List Half} (hr:Xc p=true):∀ j,j<(Xj p).length->Xo ((Xj p).getD j Yi)=true:=by
 intro j hj;rw [far_get hj,corners_at p j (by rw [Y6] at hj;exact hj)];exact (reg_corner hr (by rw [Y6] at hj;exact hj)).ok
structure SupB (p:List Half) (a b:Int):Prop where
 i:0<=(Jw p a b).1
 n : -500000000000000000<=(Jw p a b).2.1/\(Jw p a b).2.1<=500000000000000000
 d:1<=(Jw p a b).2.2/\(Jw p a b).2.2<=5000000000
theorem supB {p:List Half} {a b:Int} (hr:Xc p=true) (hne:p≠[]) (ha : -50000<=a/\a<=50000) (hb : -50000<=b/\b<=50000):SupB p a b:=by
 have hl:0<(Xj p).length:=by rw [Y6];exact List.length_pos_iff.2 hne
 obtain ⟨h1,h2,h3,h4⟩:=far5_bd ha hb (cor_ok hr) (Xj p).length Xy;refine ⟨?_,h2, ?_, ?_⟩<;>unfold Jw<;>omega
structure SupR (p:List Half) (a b:Int):Prop where
 ok:Xh (ZS p a b)=true
 n : -500000000000000000<=(ZS p a b).n/\(ZS p a b).n<=500000000000000000
 d:1<=(ZS p a b).d/\(ZS p a b).d<=5000000000
 g:Nat.gcd (ZS p a b).n.natAbs (ZS p a b).d.natAbs=1
theorem supR {p:List Half} {a b:Int} (hr:Xc p=true) (hne:p≠[]) (ha : -50000<=a/\a<=50000) (hb : -50000<=b/\b<=50000):SupR p a b:=by
 have B:=supB hr hne ha hb;have hn:=B.n;have hd:=B.d;obtain ⟨ok,k,hk,e1,e2⟩:=ZE (n:=(Jw p a b).2.1) (d:=(Jw p a b).2.2) ⟨Oz,Oz⟩ ⟨Oz,Oz⟩;obtain ⟨⟨q1,_⟩,_,q3⟩:=Km.1 ok;change Xh (ZS p a b)=true at ok
 change (Jw p a b).2.1=k*(ZS p a b).n at e1
 change (Jw p a b).2.2=k*(ZS p a b).d at e2
 change 1<=(ZS p a b).d at q1
 have g1:(ZS p a b).d<=k*(ZS p a b).d:=by
  have:=Int.mul_le_mul_of_nonneg_right (show (1:Int)<=k by omega) (show (0:Int)<=(ZS p a b).d by omega);omega
 have g2 : -500000000000000000<=(ZS p a b).n/\(ZS p a b).n<=500000000000000000:=by
  rcases Int.le_total 0 (ZS p a b).n with h|h
  ·have:=Int.mul_le_mul_of_nonneg_right (show (1:Int)<=k by omega) h;constructor<;>omega
  ·have:=Int.mul_le_mul_of_nonpos_right (show (1:Int)<=k by omega) h;constructor<;>omega
 exact ⟨ok,g2,⟨q1,Oz⟩,q3⟩
theorem SupR.in_ {p:List Half} {a b:Int} (h:SupR p a b):(ZS p a b).In:=⟨⟨by have:=h.n;omega,by have:=h.n;omega⟩,⟨by have:=h.d;omega,by have:=h.d;omega⟩⟩
def Z3 (p:List Half) (h:Half):Option Half:=Zd (h.a*(ZS p h.a h.b).d) (h.b*(ZS p h.a h.b).d) (h.c*(ZS p h.a h.b).d-(ZS p h.a h.b).n)
section
variable {α:Type} {X:α->α->Int} {D:α->α->α->Int} {L:List α}
theorem gfanA (o:GOM X D) (nv:GNV X D L) (ar:∀ h∈L,(∃ g∈L,0<X h g)/\(∃ g∈L,X h g<0)) {f:α}
 (hpar:∀ e∈L,YK X D L e->X e f=0->∀ k,0<X e k->X f k<0) (ex:∃ e∈L,YK X D L e) :
 ∃ h∈L,∃ g∈L,YK X D L h/\YK X D L g/\0<X h g/\(∀ k∈L,0<=D h g k)/\0<=X h f/\0<=X f g:=by
 have step1:∃ e∈L,YK X D L e/\0<X e f:=by
  apply Classical.byContradiction;intro hno;have hle:∀ e∈L,YK X D L e->X e f<=0:=λ e he hg=>by
   rcases glt_or 0 (X e f) with h|h
   ·exact absurd ⟨e,he,hg,h⟩ hno
   ·exact h
  by_cases hz:∃ e∈L,YK X D L e/\X e f=0
  ·obtain ⟨e,he,hg,h0⟩:=hz;obtain ⟨g,hgm,h1,_,_,h2⟩:=gnext o nv he hg (ar e he).1;have h3:=hpar e he hg h0 g h1;have h4:=hle g hgm h2;have:=o.xa g f;omega
  ·have hlt:∀ e∈L,YK X D L e->X e f<0:=λ e he hg=>by
    have:=hle e he hg;rcases Classical.em (X e f=0) with h|h
    ·exact absurd ⟨e,he,hg,h⟩ hz
    ·omega
   obtain ⟨e0,he0,hg0⟩:=ex;obtain ⟨m,hm,⟨hmg,hmf⟩,hmax⟩:=Jo (P:=λ g=>YK X D L g/\X g f<0) (le:=λ a b=>0<=X b a)
    (by intro a b _ _;have:=o.xa a b;omega)
    (by
     rintro a b c ⟨_,ha⟩ ⟨_,hb⟩ ⟨_,hc⟩ h1 h2;have id:=o.p2 c b a f;have t1:=Int.mul_nonneg h2 (show 0<=-X a f by omega);have t2:=Int.mul_nonneg (show 0<=-X c f by omega) h1;rcases glt_or (X c a) 0 with h|h
     ·have t3:=Int.mul_pos (show 0 < -X c a by omega) (show 0 < -X b f by omega);rw [Int.neg_mul_neg] at t3;rw [Int.mul_neg] at t1;rw [Int.neg_mul] at t2;omega
     ·exact h) L ⟨e0,he0,hg0,hlt e0 he0 hg0⟩
   obtain ⟨g,hgm,h1,_,_,h2⟩:=gnext o nv hm hmg (ar m hm).1;have:=hmax g hgm ⟨h2,hlt g hgm h2⟩;have:=o.xa m g;omega
 obtain ⟨e0,he0,hg0,hp0⟩:=step1;obtain ⟨h,hm,⟨hmg,hmf⟩,hmax⟩:=Jo (P:=λ g=>YK X D L g/\0<X g f) (le:=λ a b=>0<=X b a)
  (by intro a b _ _;have:=o.xa a b;omega)
  (by
   rintro a b c ⟨_,ha⟩ ⟨_,hb⟩ ⟨_,hc⟩ h1 h2;have id:=o.p2 c b a f;have t1:=Int.mul_nonneg h2 (show 0<=X a f by omega);have t2:=Int.mul_nonneg (show 0<=X c f by omega) h1;exact gmn (a:=X b f) (by rw [Int.mul_comm];omega) hb) L ⟨e0,he0,hg0,hp0⟩
 obtain ⟨g,hgm,h1,hin,_,h2⟩:=gnext o nv hm hmg (ar h hm).1;refine ⟨h,hm,g,hgm,hmg,h2,h1,hin,Oz, ?_⟩;rcases glt_or 0 (X g f) with hq|hq
 ·have:=hmax g hgm ⟨h2,hq⟩;have:=o.xa h g;omega
 ·have:=o.xa f g;omega
end
theorem gsgn_pos {x:Int}:0<sgn x ↔ 0<x:=by unfold sgn;split<;>(try split)<;>omega
theorem far_max {xs:List XH} {a b:Int} (hok:∀ j,j<xs.length->1<=(xs.getD j Yi).d):∀ k:Nat,k<=xs.length->(k=0∨1<=(YN xs a b k).2.2/\0<=(YN xs a b k).1)/\∀ j,j<k->K4 xs a b j*(YN xs a b k).2.2<=(YN xs a b k).2.1*KQ xs j
 | 0,_=>⟨.inl rfl,λ j h=>Oz⟩
 | k+1,hk=>by
  obtain ⟨h1,h2⟩:=far_max (a:=a) (b:=b) hok k Oz;have hd:1<=KQ xs k:=hok k Oz;by_cases hc:(YN xs a b k).1<0∨0<Ju (K4 xs a b k) (KQ xs k) (YN xs a b k).2.1 (YN xs a b k).2.2
  ·rw [farAt_yes hc];refine ⟨.inr ⟨hd,by simp only;omega⟩,λ j hj=>?_⟩;simp only;by_cases hjk:j=k
   ·subst hjk;exact Int.le_refl _
   ·have h3:=h2 j Oz;rcases h1 with h1|⟨h1,h0⟩
    ·omega
    ·have hp:0<Ju (K4 xs a b k) (KQ xs k) (YN xs a b k).2.1 (YN xs a b k).2.2:=by
      rcases hc with hc|hc
      ·omega
      ·exact hc
     have hq:0<K4 xs a b k*(YN xs a b k).2.2-(YN xs a b k).2.1*KQ xs k:=by
      unfold Ju at hp;exact gsgn_pos.1 hp
     have hj1:1<=KQ xs j:=hok j Oz;exact Ko (c:=(YN xs a b k).2.1) (d:=(YN xs a b k).2.2) Oz Oz Oz h3 Oz
  ·rw [farAt_no hc];have hk0:k≠0:=by
    rintro rfl;apply hc;left;simp [YN]
   refine ⟨.inr (by rcases h1 with h1|h1;exact absurd h1 hk0;exact h1),λ j hj=>?_⟩;by_cases hjk:j=k
   ·subst hjk;have hq:¬ 0<K4 xs a b j*(YN xs a b j).2.2-(YN xs a b j).2.1*KQ xs j:=λ h=>hc (.inr (by unfold Ju;exact gsgn_pos.2 h));omega
   ·exact h2 j Oz
theorem fan_val {h g f:Half} {sx sy sd x y d:Int} (hx:0<Xt h g) (h1:0<=Xt h f) (h2:0<=Xt f g) (_:0<d) (hsd:0<sd)
 (s1:h.a*sx+h.b*sy=h.c*sd) (s2:g.a*sx+g.b*sy=g.c*sd) (p1:YJ h x y d) (p2:YJ g x y d) :
 (f.a*x+f.b*y)*sd<=(f.a*sx+f.b*sy)*d:=by
 unfold YJ at p1 p2;have e1:Xt h g*(f.a*x+f.b*y)=Xt f g*(h.a*x+h.b*y)+Xt h f*(g.a*x+g.b*y):=by
  simp only [Xt];grind
 have e2:Xt h g*(f.a*sx+f.b*sy)=Xt f g*(h.c*sd)+Xt h f*(g.c*sd):=by
  rw [<- s1,<- s2];simp only [Xt];grind
 have m1:=Int.mul_le_mul_of_nonneg_left p1 h2;have m2:=Int.mul_le_mul_of_nonneg_left p2 h1;have m3:=Int.mul_le_mul_of_nonneg_right (Int.add_le_add m1 m2) (show 0<=sd by omega);rw [<- e1] at m3;have e3:(Xt f g*(h.c*d)+Xt h f*(g.c*d))*sd=Xt h g*((f.a*sx+f.b*sy)*d):=by
  rw [<- Int.mul_assoc (Xt h g),e2];grind
 rw [e3,Int.mul_assoc] at m3;exact Int.le_of_mul_le_mul_left m3 hx
theorem det_at {h k g:Half} {sx sy sd:Int} (s1:h.a*sx+h.b*sy=h.c*sd) (s2:k.a*sx+k.b*sy=k.c*sd):YH h k g*sd=Xt h k*(g.c*sd-(g.a*sx+g.b*sy)):=by
 have:YH h k g*sd=g.c*sd*Xt h k-g.a*((h.c*sd)*k.b-(k.c*sd)*h.b)-g.b*(h.a*(k.c*sd)-k.a*(h.c*sd)):=by
  simp only [YH,Xt];grind
 rw [this,<- s1,<- s2];simp only [Xt];grind
theorem sup_ge {p:List Half} (hr:Xc p=true) (hne:p≠[]) {a b:Int} (ha : -50000<=a/\a<=50000) (hb : -50000<=b/\b<=50000) {x y d:Int} (hd:0<d) (hp:∀ e∈p,YJ e x y d) :
 (a*x+b*y)*(ZS p a b).d<=(ZS p a b).n*d:=by
 have hok:=cor_ok hr;have hd1:∀ j,j<(Xj p).length->1<=((Xj p).getD j Yi).d:=λ j hj=>(ZF.1 (hok j hj)).1.1;obtain ⟨_,hmax⟩:=far_max (a:=a) (b:=b) hd1 (Xj p).length Xy;have B:=supB hr hne ha hb;have hl:=List.length_pos_iff.2 hne;have key:∃ i,i<p.length/\(a*x+b*y)*(crossS (p.getD i Xa) (nxt p i)).d<=(a*(crossS (p.getD i Xa) (nxt p i)).x+b*(crossS (p.getD i Xa) (nxt p i)).y)*d:=by
  by_cases h0:a=0/\b=0
  ·refine ⟨0,hl, ?_⟩;rw [h0.1,h0.2];simp
  ·obtain ⟨_,hpok,hm⟩:=(reg_iff hr).resolve_left hne;have gd:=ZU hpok;have hne2:XK (Xk p)≠[]:=by rw [hm];exact hne
   have nv:=gd.nv (meetI_nv gd hne2);have hedge:∀ e,e∈Xk p->YK Xt YH (Xk p) e->e∈p:=λ e h1 h2=>hm ▸ mem_meetI gd hne2 h1 h2;have hsub:∀ f∈p,f∈Xk p:=λ f hf=>(Z8 gd (by rw [hm];exact hf)).1;have hed:∀ f∈p,YK Xt YH (Xk p) f:=λ f hf=>(Z8 gd (by rw [hm];exact hf)).2;have ar:∀ h∈Xk p,(∃ g∈Xk p,0<Xt h g)/\(∃ g∈Xk p,Xt h g<0):=λ h hh=>gd.around (gd.nz h hh);have ex:=meetI_ex gd hne2;have fan:∃ h∈p,∃ g∈p,0<Xt h g/\(∀ k∈Xk p,0<=YH h g k)/\0<=Xt h ⟨a,b,0⟩/\0<=Xt ⟨a,b,0⟩ g:=by
    by_cases hs:∃ e∈Xk p,YK Xt YH (Xk p) e/\Xt e ⟨a,b,0⟩=0/\∃ k,0<Xt e k/\0<=Xt ⟨a,b,0⟩ k
    ·obtain ⟨e,he,hg,h1,k,hk1,hk2⟩:=hs;obtain ⟨g,hgm,g1,g2,_,g4⟩:=gnext gom nv he hg (ar e he).1;refine ⟨e,hedge e he hg,g,hedge g hgm g4,g1,g2,Oz, ?_⟩;have id:=gom.p2 e k ⟨a,b,0⟩ g;rw [h1] at id;simp only [Int.zero_mul,Int.sub_zero] at id;have x1:=gom.xa k ⟨a,b,0⟩;have t1:=Int.mul_nonneg (show 0<=Xt e g by omega) hk2;have t2:Xt e g*Xt k ⟨a,b,0⟩ = -(Xt e g*Xt ⟨a,b,0⟩ k):=by rw [x1,Int.mul_neg]
     rcases glt_or (Xt ⟨a,b,0⟩ g) 0 with h|h
     ·have t3:=Int.mul_pos hk1 (show 0 < -Xt ⟨a,b,0⟩ g by omega);rw [Int.mul_neg] at t3;omega
     ·exact h
    ·obtain ⟨h,hm',g,hgm,e1,e2,e3,e4,e5,e6⟩:=gfanA gom nv ar (f:=⟨a,b,0⟩) (λ e he hg h0 k hk=>by
      rcases glt_or (Xt ⟨a,b,0⟩ k) 0 with h|h
      ·exact h
      ·exact absurd ⟨e,he,hg,h0,k,hk,h⟩ hs) ex
     exact ⟨h,hedge h hm' e1,g,hedge g hgm e2,e3,e4,e5,e6⟩
   obtain ⟨h,hh,g,hg,x1,x2,x3,x4⟩:=fan;obtain ⟨i,hi,ei⟩:=JF hh;have C:=reg_corner hr hi;have nx:=(nxt_edge gd hne2 (i:=i) (by rw [hm];exact hi)).2;rw [hm] at nx;refine ⟨i,hi, ?_⟩;have hsd:0<(crossS (p.getD i Xa) (nxt p i)).d:=by have:=(ZF.1 C.ok).1.1;omega
   rw [ei] at C nx hsd ⊢;have q1:=x2 _ (hsub _ (nxt_mem (p:=p) (i:=i) hi));have q2:=nx g (hsub g hg);have q3:YH h (nxt p i) g = -YH h g (nxt p i):=by
    have:=gom.da h (nxt p i) g;have:=gom.dc h g (nxt p i);have:=gom.dc g (nxt p i) h;have:=gom.dc (nxt p i) h g;omega
   have q4:YH h (nxt p i) g=0:=Oz
   have q5:=det_at (g:=g) C.on1 C.on2;rw [q4,Int.zero_mul] at q5;have q6:=(Int.mul_eq_zero.1 q5.symm).resolve_left (by have:=C.turn;omega);exact fan_val (f:=⟨a,b,0⟩) x1 x3 x4 hd hsd C.on1 Oz (hp h hh) (hp g hg)
 obtain ⟨i,hi,hv⟩:=key;have hm:=hmax i (by rw [Y6];exact hi);have hdi:=hd1 i (by rw [Y6];exact hi);have hget:(Xj p).getD i Yi=crossS (p.getD i Xa) (nxt p i):=by
  rw [far_get (by rw [Y6];exact hi),corners_at p i hi]
 simp only [K4,KQ] at hm;change _*(Jw p a b).2.2<=(Jw p a b).2.1*_ at hm
 rw [hget] at hm hdi;have hn:=B.n;have hdd:=B.d;have tot:=Ko (a:=a*x+b*y) (b:=d) (e:=(Jw p a b).2.1) (f:=(Jw p a b).2.2) (show 0<(crossS (p.getD i Xa) (nxt p i)).d by omega) Oz Oz hv hm;obtain ⟨ok,k,hk,e1,e2⟩:=ZE (n:=(Jw p a b).2.1) (d:=(Jw p a b).2.2) ⟨Oz,Oz⟩ ⟨Oz,Oz⟩;change (Jw p a b).2.1=k*(ZS p a b).n at e1
 change (Jw p a b).2.2=k*(ZS p a b).d at e2
 rw [e1,e2] at tot;have t2:k*((a*x+b*y)*(ZS p a b).d)<=k*((ZS p a b).n*d):=by
  have r1:(a*x+b*y)*(k*(ZS p a b).d)=k*((a*x+b*y)*(ZS p a b).d):=by grind
  have r2:k*(ZS p a b).n*d=k*((ZS p a b).n*d):=by rw [Int.mul_assoc]
  omega
 exact Int.le_of_mul_le_mul_left t2 hk
def slk (x y d:Int) (f:Half):Int:=f.c*d-(f.a*x+f.b*y)
theorem det_slk (x y d:Int) (g h k:Half):YH g h k*d=Xt g h*slk x y d k-Xt g k*slk x y d h+Xt h k*slk x y d g:=by
 simp only [YH,Xt,slk];grind
theorem edge_exists {L:List Half} (gd:ZB L) {x y d:Int} (hd:0<d) (hst:∀ f∈L,0<slk x y d f):∃ e∈L,YK Xt YH L e:=by
 have hex:∃ e∈L,0<e.a:=by
  obtain ⟨e,he,hx⟩:=(gd.around (h:=⟨0,1,0⟩) (by unfold Jc;simp)).2;refine ⟨e,he, ?_⟩;simp only [Xt] at hx;omega
 obtain ⟨h,hh,hp,hmin⟩:=Jo (P:=λ f:Half=>0<f.a/\0<slk x y d f) (le:=λ a b=>b.a*slk x y d a-a.a*slk x y d b<0∨(b.a*slk x y d a-a.a*slk x y d b=0/\0<=Xt a b))
  (by
   intro a b _ _;have:=Zr a b;omega)
  (by
   rintro a b c ⟨ha,sa⟩ ⟨hb,sb⟩ ⟨hc,sc⟩ h1 h2;have id:b.a*(c.a*slk x y d a-a.a*slk x y d c)=c.a*(b.a*slk x y d a-a.a*slk x y d b)+a.a*(c.a*slk x y d b-b.a*slk x y d c):=by grind
   have idx:b.a*Xt a c=c.a*Xt a b+a.a*Xt b c:=by simp only [Xt];grind
   generalize slk x y d a=s1 at *;generalize slk x y d b=s2 at *;generalize slk x y d c=s3 at *;generalize b.a*s1-a.a*s2=r1 at *;generalize c.a*s2-b.a*s3=r2 at *;generalize c.a*s1-a.a*s3=r3 at *;rcases h1 with h1|⟨h1,k1⟩<;>rcases h2 with h2|⟨h2,k2⟩
   ·left;have m1:=Int.mul_pos hc (show 0 < -r1 by omega);have m2:=Int.mul_pos ha (show 0 < -r2 by omega);rw [Int.mul_neg] at m1 m2;rcases glt_or r3 0 with q|q
    ·exact q
    ·have:=Int.mul_nonneg (show 0<=b.a by omega) q;omega
   ·left;have m1:=Int.mul_pos hc (show 0 < -r1 by omega);rw [Int.mul_neg] at m1;rw [h2,Int.mul_zero] at id;rcases glt_or r3 0 with q|q
    ·exact q
    ·have:=Int.mul_nonneg (show 0<=b.a by omega) q;omega
   ·left;have m2:=Int.mul_pos ha (show 0 < -r2 by omega);rw [Int.mul_neg] at m2;rw [h1,Int.mul_zero] at id;rcases glt_or r3 0 with q|q
    ·exact q
    ·have:=Int.mul_nonneg (show 0<=b.a by omega) q;omega
   ·right;rw [h1,h2,Int.mul_zero,Int.mul_zero] at id;have e0:=(Int.mul_eq_zero.1 id).resolve_left Oz;refine ⟨e0, ?_⟩;have m1:=Int.mul_nonneg (show 0<=c.a by omega) k1;have m2:=Int.mul_nonneg (show 0<=a.a by omega) k2;exact gmn (a:=b.a) Oz hb) L (by
   obtain ⟨e,he,ha⟩:=hex;exact ⟨e,he,ha,hst e he⟩)
 obtain ⟨ha,hs⟩:=hp;refine ⟨h,hh,λ g hg k hk x1 x2=>?_⟩;have sg:∀ f∈L,0<=h.a*slk x y d f-f.a*slk x y d h/\(h.a*slk x y d f-f.a*slk x y d h=0->0<=Xt h f):=by
  intro f hf;have sf:=hst f hf;rcases glt_or 0 f.a with q|q
  ·have:=hmin f hf ⟨q,sf⟩;constructor
   ·omega
   ·intro e;omega
  ·have m1:=Int.mul_pos ha sf;have m2:=Int.mul_nonneg (show 0<=-f.a by omega) (show 0<=slk x y d h by omega);rw [Int.neg_mul] at m2;constructor
   ·omega
   ·intro e;omega
 have id:YH g h k*(d*h.a)=Xt g h*(h.a*slk x y d k-k.a*slk x y d h)+Xt h k*(h.a*slk x y d g-g.a*slk x y d h):=by
  rw [<- Int.mul_assoc,det_slk];have:Xt g k*h.a=Xt g h*k.a+Xt h k*g.a:=by simp only [Xt];grind
  generalize slk x y d g=s1 at *;generalize slk x y d h=s2 at *;generalize slk x y d k=s3 at *;generalize Xt g h=c1 at *;generalize Xt h k=c2 at *;generalize Xt g k=c3 at *;grind
 obtain ⟨u1,u2⟩:=sg g hg;obtain ⟨v1,_⟩:=sg k hk;have hg0:0<h.a*slk x y d g-g.a*slk x y d h:=by
  rcases Classical.em (h.a*slk x y d g-g.a*slk x y d h=0) with q|q
  ·have:=u2 q;have:=Zr g h;omega
  ·omega
 have m1:=Int.mul_nonneg (show 0<=Xt g h by omega) v1;have m2:=Int.mul_pos x2 hg0;have m3:0<(d*h.a)*YH g h k:=by rw [Int.mul_comm];omega
 exact gmp m3 (Int.mul_pos hd ha)
theorem nvoid_of {L:List Half} (gd:ZB L) {x y d:Int} (hst:∀ f∈L,0<slk x y d f) (hd:0<d):¬ GVoid L:=by
 rintro ⟨u,hu,v,hv,hne,hx,hno⟩;obtain ⟨_,h1,h2⟩:=gd.opp hu hv hne hx;have pu:=YP (gd.nz u hu);have pv:=YP (gd.nz v hv);have m1:=Int.mul_pos pv (hst u hu);have m2:=Int.mul_pos pu (hst v hv);have id:X5 v*slk x y d u+X5 u*slk x y d v=(u.c*X5 v+v.c*X5 u)*d:=by
  unfold slk;have e1:X5 v*(u.c*d-(u.a*x+u.b*y))=X5 v*u.c*d-(u.a*X5 v*x+u.b*X5 v*y):=by grind
  rw [e1,h1,h2];grind
 exact hno (gmp (a:=d) (by rw [Int.mul_comm];omega) hd)
end Go.Proofs.YtbekjpkcicjcgaaGreat
