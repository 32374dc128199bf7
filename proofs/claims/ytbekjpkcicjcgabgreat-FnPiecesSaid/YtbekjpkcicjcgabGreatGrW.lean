/-
 The greatest value of a direction over a valid region, and the half planes of an eroded region. No program is named here.
 Conditions: none.
-/
import Derived.Test.YtbekjpkcicjcgabGreatGrR
namespace Go.Proofs.YtbekjpkcicjcgabGreat
open Go.RowKit
theorem far5B {q:XW} {a b:Int} (hq:XP q=true) (ha : -50000<=a/\a<=50000) (hb : -50000<=b/\b<=50000) :
 (-250000000000000000<=a*q.x/\a*q.x<=250000000000000000)/\(-250000000000000000<=b*q.y/\b*q.y<=250000000000000000)/\(1<=q.d/\q.d<=5000000000):=by
 obtain ⟨h1,h2,h3,_⟩:=ZO.1 hq;have p:=JE (a:=a) (b:=q.x) (A:=50000) (B:=5000000000000) ⟨by omega,by omega⟩ ⟨by omega,by omega⟩;have r:=JE (a:=b) (b:=q.y) (A:=50000) (B:=5000000000000) ⟨by omega,by omega⟩ ⟨by omega,by omega⟩;exact ⟨⟨by omega,by omega⟩,⟨by omega,by omega⟩,h1⟩
theorem far5_bd {xs:List XW} {a b:Int} (ha : -50000<=a/\a<=50000) (hb : -50000<=b/\b<=50000) (hok:∀ j,j<xs.length->XP (xs.getD j sp0)=true):∀ k:Nat,k<=xs.length ->
 (-1<=(YL xs a b k).1/\(YL xs a b k).1<(k:Int))/\(-500000000000000000<=(YL xs a b k).2.1/\(YL xs a b k).2.1<=500000000000000000)/\(k=0/\YL xs a b k=(-1,0,0)∨0<k/\0<=(YL xs a b k).1/\1<=(YL xs a b k).2.2)/\(0<=(YL xs a b k).2.2/\(YL xs a b k).2.2<=5000000000)
 | 0,_=>by simp [YL]
 | k+1,hk=>by
  obtain ⟨h1,h2,h3,h4⟩:=far5_bd ha hb hok k (by omega);obtain ⟨p1,p2,p3⟩:=far5B (hok k (by omega)) ha hb;rw [YL];split
  ·simp only [KO,KB];exact ⟨⟨by omega,by omega⟩,⟨by omega,by omega⟩,.inr ⟨by omega,by omega,by omega⟩,⟨by omega,by omega⟩⟩
  ·rename_i hn
   rcases h3 with ⟨rfl,h3⟩|h3
   ·exfalso;apply hn;left;rw [h3];decide
   ·exact ⟨⟨by omega,by omega⟩,h2,.inr ⟨by omega,by omega,by omega⟩,h4⟩
def JO (p:List Half) (a b:Int):Int × Int × Int:=YL (XD p) a b (XD p).length
def J4 (p:List Half) (a b:Int):Yu:=X6 (JO p a b).2.1 (JO p a b).2.2
theorem cor_ok {p:List Half} (hr:Xc p=true):∀ j,j<(XD p).length->XP ((XD p).getD j sp0)=true:=by
 intro j hj;rw [far_get hj,corners_at p j (by rw [YY] at hj;exact hj)];exact (reg_corner hr (by rw [YY] at hj;exact hj)).ok
structure SupB (p:List Half) (a b:Int):Prop where
 i:0<=(JO p a b).1
 n : -500000000000000000<=(JO p a b).2.1/\(JO p a b).2.1<=500000000000000000
 d:1<=(JO p a b).2.2/\(JO p a b).2.2<=5000000000
theorem supB {p:List Half} {a b:Int} (hr:Xc p=true) (hne:p≠[]) (ha : -50000<=a/\a<=50000) (hb : -50000<=b/\b<=50000):SupB p a b:=by
 have hl:0<(XD p).length:=by rw [YY];exact List.length_pos_iff.2 hne
 obtain ⟨h1,h2,h3,h4⟩:=far5_bd ha hb (cor_ok hr) (XD p).length Xs;refine ⟨?_,h2, ?_, ?_⟩<;>unfold JO<;>omega
structure SupR (p:List Half) (a b:Int):Prop where
 ok:XE (J4 p a b)=true
 n : -500000000000000000<=(J4 p a b).n/\(J4 p a b).n<=500000000000000000
 d:1<=(J4 p a b).d/\(J4 p a b).d<=5000000000
 g:Nat.gcd (J4 p a b).n.natAbs (J4 p a b).d.natAbs=1
theorem supR {p:List Half} {a b:Int} (hr:Xc p=true) (hne:p≠[]) (ha : -50000<=a/\a<=50000) (hb : -50000<=b/\b<=50000):SupR p a b:=by
 have B:=supB hr hne ha hb;have hn:=B.n;have hd:=B.d;obtain ⟨ok,k,hk,e1,e2⟩:=ratioOf_scale (n:=(JO p a b).2.1) (d:=(JO p a b).2.2) ⟨by omega,by omega⟩ ⟨by omega,by omega⟩;obtain ⟨⟨q1,_⟩,_,q3⟩:=KJ.1 ok;change XE (J4 p a b)=true at ok
 change (JO p a b).2.1=k*(J4 p a b).n at e1
 change (JO p a b).2.2=k*(J4 p a b).d at e2
 change 1<=(J4 p a b).d at q1
 have g1:(J4 p a b).d<=k*(J4 p a b).d:=by
  have:=Int.mul_le_mul_of_nonneg_right (show (1:Int)<=k by omega) (show (0:Int)<=(J4 p a b).d by omega);omega
 have g2 : -500000000000000000<=(J4 p a b).n/\(J4 p a b).n<=500000000000000000:=by
  rcases Int.le_total 0 (J4 p a b).n with h|h
  ·have:=Int.mul_le_mul_of_nonneg_right (show (1:Int)<=k by omega) h;constructor<;>omega
  ·have:=Int.mul_le_mul_of_nonpos_right (show (1:Int)<=k by omega) h;constructor<;>omega
 exact ⟨ok,g2,⟨q1,by omega⟩,q3⟩
def KC (p:List Half) (h:Half):Option Half:=XO (h.a*(J4 p h.a h.b).d) (h.b*(J4 p h.a h.b).d) (h.c*(J4 p h.a h.b).d-(J4 p h.a h.b).n)
section
variable {α:Type} {X:α->α->Int} {D:α->α->α->Int} {L:List α}
theorem gfanA (o:GOM X D) (nv:GNV X D L) (ar:∀ h∈L,(∃ g∈L,0<X h g)/\(∃ g∈L,X h g<0)) {f:α}
 (hpar:∀ e∈L,Yv X D L e->X e f=0->∀ k,0<X e k->X f k<0) (ex:∃ e∈L,Yv X D L e) :
 ∃ h∈L,∃ g∈L,Yv X D L h/\Yv X D L g/\0<X h g/\(∀ k∈L,0<=D h g k)/\0<=X h f/\0<=X f g:=by
 have step1:∃ e∈L,Yv X D L e/\0<X e f:=by
  apply Classical.byContradiction;intro hno;have hle:∀ e∈L,Yv X D L e->X e f<=0:=λ e he hg=>by
   rcases Jk 0 (X e f) with h|h
   ·exact absurd ⟨e,he,hg,h⟩ hno
   ·exact h
  by_cases hz:∃ e∈L,Yv X D L e/\X e f=0
  ·obtain ⟨e,he,hg,h0⟩:=hz;obtain ⟨g,hgm,h1,_,_,h2⟩:=gnext o nv he hg (ar e he).1;have h3:=hpar e he hg h0 g h1;have h4:=hle g hgm h2;have:=o.xa g f;omega
  ·have hlt:∀ e∈L,Yv X D L e->X e f<0:=λ e he hg=>by
    have:=hle e he hg;rcases Classical.em (X e f=0) with h|h
    ·exact absurd ⟨e,he,hg,h⟩ hz
    ·omega
   obtain ⟨e0,he0,hg0⟩:=ex;obtain ⟨m,hm,⟨hmg,hmf⟩,hmax⟩:=KM (P:=λ g=>Yv X D L g/\X g f<0) (le:=λ a b=>0<=X b a)
    (by intro a b _ _;have:=o.xa a b;omega)
    (by
     rintro a b c ⟨_,ha⟩ ⟨_,hb⟩ ⟨_,hc⟩ h1 h2;have id:=o.p2 c b a f;have t1:=Int.mul_nonneg h2 (show 0<=-X a f by omega);have t2:=Int.mul_nonneg (show 0<=-X c f by omega) h1;rcases Jk (X c a) 0 with h|h
     ·have t3:=Int.mul_pos (show 0 < -X c a by omega) (show 0 < -X b f by omega);rw [Int.neg_mul_neg] at t3;rw [Int.mul_neg] at t1;rw [Int.neg_mul] at t2;omega
     ·exact h) L ⟨e0,he0,hg0,hlt e0 he0 hg0⟩
   obtain ⟨g,hgm,h1,_,_,h2⟩:=gnext o nv hm hmg (ar m hm).1;have:=hmax g hgm ⟨h2,hlt g hgm h2⟩;have:=o.xa m g;omega
 obtain ⟨e0,he0,hg0,hp0⟩:=step1;obtain ⟨h,hm,⟨hmg,hmf⟩,hmax⟩:=KM (P:=λ g=>Yv X D L g/\0<X g f) (le:=λ a b=>0<=X b a)
  (by intro a b _ _;have:=o.xa a b;omega)
  (by
   rintro a b c ⟨_,ha⟩ ⟨_,hb⟩ ⟨_,hc⟩ h1 h2;have id:=o.p2 c b a f;have t1:=Int.mul_nonneg h2 (show 0<=X a f by omega);have t2:=Int.mul_nonneg (show 0<=X c f by omega) h1;exact gmn (a:=X b f) (by rw [Int.mul_comm];omega) hb) L ⟨e0,he0,hg0,hp0⟩
 obtain ⟨g,hgm,h1,hin,_,h2⟩:=gnext o nv hm hmg (ar h hm).1;refine ⟨h,hm,g,hgm,hmg,h2,h1,hin,by omega, ?_⟩;rcases Jk 0 (X g f) with hq|hq
 ·have:=hmax g hgm ⟨h2,hq⟩;have:=o.xa h g;omega
 ·have:=o.xa f g;omega
end
theorem gsgn_pos {x:Int}:0<sgn x ↔ 0<x:=by unfold sgn;split<;>(try split)<;>omega
theorem far_max {xs:List XW} {a b:Int} (hok:∀ j,j<xs.length->1<=(xs.getD j sp0).d):∀ k:Nat,k<=xs.length->(k=0∨1<=(YL xs a b k).2.2/\0<=(YL xs a b k).1)/\∀ j,j<k->KO xs a b j*(YL xs a b k).2.2<=(YL xs a b k).2.1*KB xs j
 | 0,_=>⟨.inl rfl,λ j h=>by omega⟩
 | k+1,hk=>by
  obtain ⟨h1,h2⟩:=far_max (a:=a) (b:=b) hok k (by omega);have hd:1<=KB xs k:=hok k (by omega);by_cases hc:(YL xs a b k).1<0∨0<KV (KO xs a b k) (KB xs k) (YL xs a b k).2.1 (YL xs a b k).2.2
  ·rw [farAt_yes hc];refine ⟨.inr ⟨hd,by simp only;omega⟩,λ j hj=>?_⟩;simp only;by_cases hjk:j=k
   ·subst hjk;exact Int.le_refl _
   ·have h3:=h2 j (by omega);rcases h1 with h1|⟨h1,h0⟩
    ·omega
    ·have hp:0<KV (KO xs a b k) (KB xs k) (YL xs a b k).2.1 (YL xs a b k).2.2:=by
      rcases hc with hc|hc
      ·omega
      ·exact hc
     have hq:0<KO xs a b k*(YL xs a b k).2.2-(YL xs a b k).2.1*KB xs k:=by
      unfold KV at hp;exact gsgn_pos.1 hp
     have hj1:1<=KB xs j:=hok j (by omega);exact ZG (c:=(YL xs a b k).2.1) (d:=(YL xs a b k).2.2) (by omega) (by omega) (by omega) h3 (by omega)
  ·rw [farAt_no hc];have hk0:k≠0:=by
    rintro rfl;apply hc;left;simp [YL]
   refine ⟨.inr (by rcases h1 with h1|h1;exact absurd h1 hk0;exact h1),λ j hj=>?_⟩;by_cases hjk:j=k
   ·subst hjk;have hq:¬ 0<KO xs a b j*(YL xs a b j).2.2-(YL xs a b j).2.1*KB xs j:=λ h=>hc (.inr (by unfold KV;exact gsgn_pos.2 h));omega
   ·exact h2 j (by omega)
theorem fan_val {h g f:Half} {sx sy sd x y d:Int} (hx:0<Xp h g) (h1:0<=Xp h f) (h2:0<=Xp f g) (_:0<d) (hsd:0<sd)
 (s1:h.a*sx+h.b*sy=h.c*sd) (s2:g.a*sx+g.b*sy=g.c*sd) (p1:Yp h x y d) (p2:Yp g x y d) :
 (f.a*x+f.b*y)*sd<=(f.a*sx+f.b*sy)*d:=by
 unfold Yp at p1 p2;have e1:Xp h g*(f.a*x+f.b*y)=Xp f g*(h.a*x+h.b*y)+Xp h f*(g.a*x+g.b*y):=by
  simp only [Xp];grind
 have e2:Xp h g*(f.a*sx+f.b*sy)=Xp f g*(h.c*sd)+Xp h f*(g.c*sd):=by
  rw [<- s1,<- s2];simp only [Xp];grind
 have m1:=Int.mul_le_mul_of_nonneg_left p1 h2;have m2:=Int.mul_le_mul_of_nonneg_left p2 h1;have m3:=Int.mul_le_mul_of_nonneg_right (Int.add_le_add m1 m2) (show 0<=sd by omega);rw [<- e1] at m3;have e3:(Xp f g*(h.c*d)+Xp h f*(g.c*d))*sd=Xp h g*((f.a*sx+f.b*sy)*d):=by
  rw [<- Int.mul_assoc (Xp h g),e2];grind
 rw [e3,Int.mul_assoc] at m3;exact Int.le_of_mul_le_mul_left m3 hx
theorem det_at {h k g:Half} {sx sy sd:Int} (s1:h.a*sx+h.b*sy=h.c*sd) (s2:k.a*sx+k.b*sy=k.c*sd):Ya h k g*sd=Xp h k*(g.c*sd-(g.a*sx+g.b*sy)):=by
 have:Ya h k g*sd=g.c*sd*Xp h k-g.a*((h.c*sd)*k.b-(k.c*sd)*h.b)-g.b*(h.a*(k.c*sd)-k.a*(h.c*sd)):=by
  simp only [Ya,Xp];grind
 rw [this,<- s1,<- s2];simp only [Xp];grind
theorem sup_ge {p:List Half} (hr:Xc p=true) (hne:p≠[]) {a b:Int} (ha : -50000<=a/\a<=50000) (hb : -50000<=b/\b<=50000) {x y d:Int} (hd:0<d) (hp:∀ e∈p,Yp e x y d) :
 (a*x+b*y)*(J4 p a b).d<=(J4 p a b).n*d:=by
 have hok:=cor_ok hr;have hd1:∀ j,j<(XD p).length->1<=((XD p).getD j sp0).d:=λ j hj=>(ZO.1 (hok j hj)).1.1;obtain ⟨_,hmax⟩:=far_max (a:=a) (b:=b) hd1 (XD p).length Xs;have B:=supB hr hne ha hb;have hl:=List.length_pos_iff.2 hne;have key:∃ i,i<p.length/\(a*x+b*y)*(JJ (p.getD i Xb) (nxt p i)).d<=(a*(JJ (p.getD i Xb) (nxt p i)).x+b*(JJ (p.getD i Xb) (nxt p i)).y)*d:=by
  by_cases h0:a=0/\b=0
  ·refine ⟨0,hl, ?_⟩;rw [h0.1,h0.2];simp
  ·obtain ⟨_,hpok,hm⟩:=(reg_iff hr).resolve_left hne;have gd:=Zj hpok;have hne2:Xw (Xk p)≠[]:=by rw [hm];exact hne
   have nv:=gd.nv (JR gd hne2);have hedge:∀ e,e∈Xk p->Yv Xp Ya (Xk p) e->e∈p:=λ e h1 h2=>hm ▸ mem_meetI gd hne2 h1 h2;have hsub:∀ f∈p,f∈Xk p:=λ f hf=>(Zw gd (by rw [hm];exact hf)).1;have hed:∀ f∈p,Yv Xp Ya (Xk p) f:=λ f hf=>(Zw gd (by rw [hm];exact hf)).2;have ar:∀ h∈Xk p,(∃ g∈Xk p,0<Xp h g)/\(∃ g∈Xk p,Xp h g<0):=λ h hh=>gd.around (gd.nz h hh);have ex:=meetI_ex gd hne2;have fan:∃ h∈p,∃ g∈p,0<Xp h g/\(∀ k∈Xk p,0<=Ya h g k)/\0<=Xp h ⟨a,b,0⟩/\0<=Xp ⟨a,b,0⟩ g:=by
    by_cases hs:∃ e∈Xk p,Yv Xp Ya (Xk p) e/\Xp e ⟨a,b,0⟩=0/\∃ k,0<Xp e k/\0<=Xp ⟨a,b,0⟩ k
    ·obtain ⟨e,he,hg,h1,k,hk1,hk2⟩:=hs;obtain ⟨g,hgm,g1,g2,_,g4⟩:=gnext gom nv he hg (ar e he).1;refine ⟨e,hedge e he hg,g,hedge g hgm g4,g1,g2,by omega, ?_⟩;have id:=gom.p2 e k ⟨a,b,0⟩ g;rw [h1] at id;simp only [Int.zero_mul,Int.sub_zero] at id;have x1:=gom.xa k ⟨a,b,0⟩;have t1:=Int.mul_nonneg (show 0<=Xp e g by omega) hk2;have t2:Xp e g*Xp k ⟨a,b,0⟩ = -(Xp e g*Xp ⟨a,b,0⟩ k):=by rw [x1,Int.mul_neg]
     rcases Jk (Xp ⟨a,b,0⟩ g) 0 with h|h
     ·have t3:=Int.mul_pos hk1 (show 0 < -Xp ⟨a,b,0⟩ g by omega);rw [Int.mul_neg] at t3;omega
     ·exact h
    ·obtain ⟨h,hm',g,hgm,e1,e2,e3,e4,e5,e6⟩:=gfanA gom nv ar (f:=⟨a,b,0⟩) (λ e he hg h0 k hk=>by
      rcases Jk (Xp ⟨a,b,0⟩ k) 0 with h|h
      ·exact h
      ·exact absurd ⟨e,he,hg,h0,k,hk,h⟩ hs) ex
     exact ⟨h,hedge h hm' e1,g,hedge g hgm e2,e3,e4,e5,e6⟩
   obtain ⟨h,hh,g,hg,x1,x2,x3,x4⟩:=fan;obtain ⟨i,hi,ei⟩:=KY hh;have C:=reg_corner hr hi;have nx:=(nxt_edge gd hne2 (i:=i) (by rw [hm];exact hi)).2;rw [hm] at nx;refine ⟨i,hi, ?_⟩;have hsd:0<(JJ (p.getD i Xb) (nxt p i)).d:=by have:=(ZO.1 C.ok).1.1;omega
   rw [ei] at C nx hsd ⊢;have q1:=x2 _ (hsub _ (nxt_mem (p:=p) (i:=i) hi));have q2:=nx g (hsub g hg);have q3:Ya h (nxt p i) g = -Ya h g (nxt p i):=by
    have:=gom.da h (nxt p i) g;have:=gom.dc h g (nxt p i);have:=gom.dc g (nxt p i) h;have:=gom.dc (nxt p i) h g;omega
   have q4:Ya h (nxt p i) g=0:=by omega
   have q5:=det_at (g:=g) C.on1 C.on2;rw [q4,Int.zero_mul] at q5;have q6:=(Int.mul_eq_zero.1 q5.symm).resolve_left (by have:=C.turn;omega);exact fan_val (f:=⟨a,b,0⟩) x1 x3 x4 hd hsd C.on1 (by omega) (hp h hh) (hp g hg)
 obtain ⟨i,hi,hv⟩:=key;have hm:=hmax i (by rw [YY];exact hi);have hdi:=hd1 i (by rw [YY];exact hi);have hget:(XD p).getD i sp0=JJ (p.getD i Xb) (nxt p i):=by
  rw [far_get (by rw [YY];exact hi),corners_at p i hi]
 simp only [KO,KB] at hm;change _*(JO p a b).2.2<=(JO p a b).2.1*_ at hm
 rw [hget] at hm hdi;have hn:=B.n;have hdd:=B.d;have tot:=ZG (a:=a*x+b*y) (b:=d) (e:=(JO p a b).2.1) (f:=(JO p a b).2.2) (show 0<(JJ (p.getD i Xb) (nxt p i)).d by omega) (by omega) (by omega) hv hm;obtain ⟨ok,k,hk,e1,e2⟩:=ratioOf_scale (n:=(JO p a b).2.1) (d:=(JO p a b).2.2) ⟨by omega,by omega⟩ ⟨by omega,by omega⟩;change (JO p a b).2.1=k*(J4 p a b).n at e1
 change (JO p a b).2.2=k*(J4 p a b).d at e2
 rw [e1,e2] at tot;have t2:k*((a*x+b*y)*(J4 p a b).d)<=k*((J4 p a b).n*d):=by
  have r1:(a*x+b*y)*(k*(J4 p a b).d)=k*((a*x+b*y)*(J4 p a b).d):=by grind
  have r2:k*(J4 p a b).n*d=k*((J4 p a b).n*d):=by rw [Int.mul_assoc]
  omega
 exact Int.le_of_mul_le_mul_left t2 hk
def det3 (x0 y0 d0 x1 y1 d1 x2 y2 d2:Int):Int:=x0*(y1*d2-y2*d1)-y0*(x1*d2-x2*d1)+d0*(x1*y2-x2*y1)
theorem det_cross (a1 a2 a3 b1 b2 b3 c1 c2 c3 e1 e2 e3:Int) :
 det3 (a3*b2-b3*a2) (a1*b3-b1*a3) (a1*b2-a2*b1) (b3*c2-c3*b2) (b1*c3-c1*b3) (b1*c2-b2*c1) (c3*e2-e3*c2) (c1*e3-e1*c3) (c1*e2-c2*e1) =
 (c3*(a1*b2-a2*b1)-c1*(a3*b2-b3*a2)-c2*(a1*b3-b1*a3))*(e3*(b1*c2-b2*c1)-e1*(b3*c2-c3*b2)-e2*(b1*c3-c1*b3)):=by
 unfold det3;grind
theorem det3_a {f:Half} {x0 y0 d0 x1 y1 d1 x2 y2 d2:Int} (h0:f.a*x0+f.b*y0=f.c*d0) (h1:f.a*x1+f.b*y1=f.c*d1) (h2:f.a*x2+f.b*y2=f.c*d2) :
 det3 x0 y0 d0 x1 y1 d1 x2 y2 d2*f.a=0/\det3 x0 y0 d0 x1 y1 d1 x2 y2 d2*f.b=0:=by
 unfold det3;constructor<;>grind
theorem inner_of {f:Half} (n:Kn f) {x0 y0 d0 x1 y1 d1 x2 y2 d2:Int} (Ya:det3 x0 y0 d0 x1 y1 d1 x2 y2 d2≠0) (h0:Yp f x0 y0 d0) (h1:Yp f x1 y1 d1) (h2:Yp f x2 y2 d2) :
 f.a*(x0+x1+x2)+f.b*(y0+y1+y2)<f.c*(d0+d1+d2):=by
 unfold Yp at h0 h1 h2;have e:f.a*(x0+x1+x2)+f.b*(y0+y1+y2)=(f.a*x0+f.b*y0)+(f.a*x1+f.b*y1)+(f.a*x2+f.b*y2):=by grind
 have e':f.c*(d0+d1+d2)=f.c*d0+f.c*d1+f.c*d2:=by grind
 rw [e,e'];rcases Jk ((f.a*x0+f.b*y0)+(f.a*x1+f.b*y1)+(f.a*x2+f.b*y2)) (f.c*d0+f.c*d1+f.c*d2) with h|h
 ·exact h
 ·exfalso;obtain ⟨p,q⟩:=det3_a (f:=f) (x0:=x0) (y0:=y0) (d0:=d0) (x1:=x1) (y1:=y1) (d1:=d1) (x2:=x2) (y2:=y2) (d2:=d2) (by omega) (by omega) (by omega);have p2:=(Int.mul_eq_zero.1 p).resolve_left Ya;have q2:=(Int.mul_eq_zero.1 q).resolve_left Ya;unfold Kn at n;omega
theorem cr_pos {h g:Half} (x:0<Xp h g):J2 h g=h.c*g.b-g.c*h.b/\J0 h g=h.a*g.c-g.a*h.c/\ZZ h g=h.a*g.b-h.b*g.a:=by
 unfold J2 J0 ZZ;rw [if_neg (by omega),if_neg (by omega),if_neg (by omega)];exact ⟨rfl,rfl,rfl⟩
end Go.Proofs.YtbekjpkcicjcgabGreat
