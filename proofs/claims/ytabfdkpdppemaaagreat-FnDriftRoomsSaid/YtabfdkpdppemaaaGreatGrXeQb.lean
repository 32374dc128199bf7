/-
 Valid modes: of the program and of the reference.
 Conditions: the slices hold at most 2^20 elements.
-/
import Derived.RegionTactic
import Derived.ChangeAlike
import Derived.Deep.DeepCutAuto
import Derived.Deep.RegionHeld3
import Derived.Test.YtabfdkpdppemaaaGreatCopyQb
import Derived.Test.YtabfdkpdppemaaaGreatRoomSa
namespace Go.Proofs.YtabfdkpdppemaaaGreat
open Go.RowKit
def room0:XH:=⟨[],0,0,0,0,0,[],[]⟩
theorem Sl.some_ {α:Type} {sz c:Nat} {enc:α->List Value} {w:World} {A:Option Addr} {xs:List α} (h:Sl sz enc w A xs) (h0:0<xs.length):A=none->c=0:=by
 intro e;obtain ⟨b,off,e',_⟩:=h h0;rw [e] at e';cases e'
section
variable {α:Type} {X:α->α->Int} {D:α->α->α->Int} {L:List α}
end
section
variable {l:List Half}
end
theorem meet_holds {hs:List Half} (hok:∀ h∈hs,Xn h=true) (hne:Xx (Xp hs)≠[]) {x y d:Int} (hd:0<=d) :
 (∀ e∈Xx (Xp hs),YO e x y d) ↔ (∀ h∈Yh++hs,YO h x y d):=by
 have gd:=ZT hok;have c:=YP (hs:=Yh++hs) (λ f hf=>(KE (Zp hok f hf)).n);constructor
 ·intro hp h hh;obtain ⟨z,hz,cz⟩:=c.cov h hh;exact holds_cov (gd.nz z hz) (KE (Zp hok h hh)).n cz hd (meetI_span gd hne hd hp z hz)
 ·intro hp e he;exact hp e (c.mem e (ZE gd he).1)
theorem corners_ok {p:List Half} (hr:Xl p=true):∀ s∈X7 p,XA s=true:=by
 intro s hs;obtain ⟨i,hi,rfl⟩:=List.mem_map.1 hs;exact (JJ hr (List.mem_range.1 hi)).ok
section
variable {α:Type} {X:α->α->Int} {D:α->α->α->Int} {L:List α}
theorem gfanA (o:GOM X D) (nv:GNV X D L) (ar:∀ h∈L,(∃ g∈L,0<X h g)/\(∃ g∈L,X h g<0)) {f:α}
 (hpar:∀ e∈L,Yg X D L e->X e f=0->∀ k,0<X e k->X f k<0) (ex:∃ e∈L,Yg X D L e) :
 ∃ h∈L,∃ g∈L,Yg X D L h/\Yg X D L g/\0<X h g/\(∀ k∈L,0<=D h g k)/\0<=X h f/\0<=X f g:=by
 have step1:∃ e∈L,Yg X D L e/\0<X e f:=by
  apply Classical.byContradiction;intro hno;have hle:∀ e∈L,Yg X D L e->X e f<=0:=λ e he hg=>by
   rcases Ji 0 (X e f) with h|h
   ·exact absurd ⟨e,he,hg,h⟩ hno
   ·exact h
  by_cases hz:∃ e∈L,Yg X D L e/\X e f=0
  ·obtain ⟨e,he,hg,h0⟩:=hz;obtain ⟨g,hgm,h1,_,_,h2⟩:=gnext o nv he hg (ar e he).1;have h3:=hpar e he hg h0 g h1;have h4:=hle g hgm h2;have:=o.xa g f;omega
  ·have hlt:∀ e∈L,Yg X D L e->X e f<0:=λ e he hg=>by
    have:=hle e he hg;rcases Classical.em (X e f=0) with h|h
    ·exact absurd ⟨e,he,hg,h⟩ hz
    ·omega
   obtain ⟨e0,he0,hg0⟩:=ex;obtain ⟨m,hm,⟨hmg,hmf⟩,hmax⟩:=Kz (P:=λ g=>Yg X D L g/\X g f<0) (le:=λ a b=>0<=X b a)
    (by intro a b _ _;have:=o.xa a b;omega)
    (by
     rintro a b c ⟨_,ha⟩ ⟨_,hb⟩ ⟨_,hc⟩ h1 h2;have id:=o.p2 c b a f;have t1:=Int.mul_nonneg h2 (show 0<=-X a f by omega);have t2:=Int.mul_nonneg (show 0<=-X c f by omega) h1;rcases Ji (X c a) 0 with h|h
     ·have t3:=Int.mul_pos (show 0 < -X c a by omega) (show 0 < -X b f by omega);rw [Int.neg_mul_neg] at t3;rw [Int.mul_neg] at t1;rw [Int.neg_mul] at t2;omega
     ·exact h) L ⟨e0,he0,hg0,hlt e0 he0 hg0⟩
   obtain ⟨g,hgm,h1,_,_,h2⟩:=gnext o nv hm hmg (ar m hm).1;have:=hmax g hgm ⟨h2,hlt g hgm h2⟩;have:=o.xa m g;omega
 obtain ⟨e0,he0,hg0,hp0⟩:=step1;obtain ⟨h,hm,⟨hmg,hmf⟩,hmax⟩:=Kz (P:=λ g=>Yg X D L g/\0<X g f) (le:=λ a b=>0<=X b a)
  (by intro a b _ _;have:=o.xa a b;omega)
  (by
   rintro a b c ⟨_,ha⟩ ⟨_,hb⟩ ⟨_,hc⟩ h1 h2;have id:=o.p2 c b a f;have t1:=Int.mul_nonneg h2 (show 0<=X a f by omega);have t2:=Int.mul_nonneg (show 0<=X c f by omega) h1;exact gmn (a:=X b f) (by rw [Int.mul_comm];omega) hb) L ⟨e0,he0,hg0,hp0⟩
 obtain ⟨g,hgm,h1,hin,_,h2⟩:=gnext o nv hm hmg (ar h hm).1;refine ⟨h,hm,g,hgm,hmg,h2,h1,hin,by omega, ?_⟩;rcases Ji 0 (X g f) with hq|hq
 ·have:=hmax g hgm ⟨h2,hq⟩;have:=o.xa h g;omega
 ·have:=o.xa f g;omega
end
theorem gsgn_pos {x:Int}:0<sgn x ↔ 0<x:=by unfold sgn;split<;>(try split)<;>omega
theorem far_max {xs:List Xz} {a b:Int} (hok:∀ j,j<xs.length->1<=(xs.getD j JH).d):∀ k:Nat,k<=xs.length->(k=0∨1<=(Ys xs a b k).2.2/\0<=(Ys xs a b k).1)/\∀ j,j<k->KB xs a b j*(Ys xs a b k).2.2<=(Ys xs a b k).2.1*Kn xs j
 | 0,_=>⟨.inl rfl,λ j h=>by omega⟩
 | k+1,hk=>by
  obtain ⟨h1,h2⟩:=far_max (a:=a) (b:=b) hok k (by omega);have hd:1<=Kn xs k:=hok k (by omega);by_cases hc:(Ys xs a b k).1<0∨0<KH (KB xs a b k) (Kn xs k) (Ys xs a b k).2.1 (Ys xs a b k).2.2
  ·rw [farAt_yes hc];refine ⟨.inr ⟨hd,by simp only;omega⟩,λ j hj=>?_⟩;simp only;by_cases hjk:j=k
   ·subst hjk;exact Int.le_refl _
   ·have h3:=h2 j (by omega);rcases h1 with h1|⟨h1,h0⟩
    ·omega
    ·have hp:0<KH (KB xs a b k) (Kn xs k) (Ys xs a b k).2.1 (Ys xs a b k).2.2:=by
      rcases hc with hc|hc
      ·omega
      ·exact hc
     have hq:0<KB xs a b k*(Ys xs a b k).2.2-(Ys xs a b k).2.1*Kn xs k:=by
      unfold KH at hp;exact gsgn_pos.1 hp
     have hj1:1<=Kn xs j:=hok j (by omega);exact ZP (c:=(Ys xs a b k).2.1) (d:=(Ys xs a b k).2.2) (by omega) (by omega) (by omega) h3 (by omega)
  ·rw [farAt_no hc];have hk0:k≠0:=by
    rintro rfl;apply hc;left;simp [Ys]
   refine ⟨.inr (by rcases h1 with h1|h1;exact absurd h1 hk0;exact h1),λ j hj=>?_⟩;by_cases hjk:j=k
   ·subst hjk;have hq:¬ 0<KB xs a b j*(Ys xs a b j).2.2-(Ys xs a b j).2.1*Kn xs j:=λ h=>hc (.inr (by unfold KH;exact gsgn_pos.2 h));omega
   ·exact h2 j (by omega)
theorem fan_val {h g f:Half} {sx sy sd x y d:Int} (hx:0<Xj h g) (h1:0<=Xj h f) (h2:0<=Xj f g) (_:0<d) (hsd:0<sd)
 (s1:h.a*sx+h.b*sy=h.c*sd) (s2:g.a*sx+g.b*sy=g.c*sd) (p1:YO h x y d) (p2:YO g x y d) :
 (f.a*x+f.b*y)*sd<=(f.a*sx+f.b*sy)*d:=by
 unfold YO at p1 p2;have e1:Xj h g*(f.a*x+f.b*y)=Xj f g*(h.a*x+h.b*y)+Xj h f*(g.a*x+g.b*y):=by
  simp only [Xj];grind
 have e2:Xj h g*(f.a*sx+f.b*sy)=Xj f g*(h.c*sd)+Xj h f*(g.c*sd):=by
  rw [<- s1,<- s2];simp only [Xj];grind
 have m1:=Int.mul_le_mul_of_nonneg_left p1 h2;have m2:=Int.mul_le_mul_of_nonneg_left p2 h1;have m3:=Int.mul_le_mul_of_nonneg_right (Int.add_le_add m1 m2) (show 0<=sd by omega);rw [<- e1] at m3;have e3:(Xj f g*(h.c*d)+Xj h f*(g.c*d))*sd=Xj h g*((f.a*sx+f.b*sy)*d):=by
  rw [<- Int.mul_assoc (Xj h g),e2];grind
 rw [e3,Int.mul_assoc] at m3;exact Int.le_of_mul_le_mul_left m3 hx
theorem det_at {h k g:Half} {sx sy sd:Int} (s1:h.a*sx+h.b*sy=h.c*sd) (s2:k.a*sx+k.b*sy=k.c*sd):Yj h k g*sd=Xj h k*(g.c*sd-(g.a*sx+g.b*sy)):=by
 have:Yj h k g*sd=g.c*sd*Xj h k-g.a*((h.c*sd)*k.b-(k.c*sd)*h.b)-g.b*(h.a*(k.c*sd)-k.a*(h.c*sd)):=by
  simp only [Yj,Xj];grind
 rw [this,<- s1,<- s2];simp only [Xj];grind
theorem sup_ge {p:List Half} (hr:Xl p=true) (hne:p≠[]) {a b:Int} (ha : -50000<=a/\a<=50000) (hb : -50000<=b/\b<=50000) {x y d:Int} (hd:0<d) (hp:∀ e∈p,YO e x y d) :
 (a*x+b*y)*(Jz p a b).d<=(Jz p a b).n*d:=by
 have hok:=cor_ok hr;have hd1:∀ j,j<(X7 p).length->1<=((X7 p).getD j JH).d:=λ j hj=>(ZQ.1 (hok j hj)).1.1;obtain ⟨_,hmax⟩:=far_max (a:=a) (b:=b) hd1 (X7 p).length Xt;have B:=supB hr hne ha hb;have hl:=List.length_pos_iff.2 hne;have key:∃ i,i<p.length/\(a*x+b*y)*(Jl (p.getD i Xe) (nxt p i)).d<=(a*(Jl (p.getD i Xe) (nxt p i)).x+b*(Jl (p.getD i Xe) (nxt p i)).y)*d:=by
  by_cases h0:a=0/\b=0
  ·refine ⟨0,hl, ?_⟩;rw [h0.1,h0.2];simp
  ·obtain ⟨_,hpok,hm⟩:=(reg_iff hr).resolve_left hne;have gd:=ZT hpok;have hne2:Xx (Xp p)≠[]:=by rw [hm];exact hne
   have nv:=gd.nv (meetI_nv gd hne2);have hedge:∀ e,e∈Xp p->Yg Xj Yj (Xp p) e->e∈p:=λ e h1 h2=>hm ▸ mem_meetI gd hne2 h1 h2;have hsub:∀ f∈p,f∈Xp p:=λ f hf=>(ZE gd (by rw [hm];exact hf)).1;have hed:∀ f∈p,Yg Xj Yj (Xp p) f:=λ f hf=>(ZE gd (by rw [hm];exact hf)).2;have ar:∀ h∈Xp p,(∃ g∈Xp p,0<Xj h g)/\(∃ g∈Xp p,Xj h g<0):=λ h hh=>gd.around (gd.nz h hh);have ex:=meetI_ex gd hne2;have fan:∃ h∈p,∃ g∈p,0<Xj h g/\(∀ k∈Xp p,0<=Yj h g k)/\0<=Xj h ⟨a,b,0⟩/\0<=Xj ⟨a,b,0⟩ g:=by
    by_cases hs:∃ e∈Xp p,Yg Xj Yj (Xp p) e/\Xj e ⟨a,b,0⟩=0/\∃ k,0<Xj e k/\0<=Xj ⟨a,b,0⟩ k
    ·obtain ⟨e,he,hg,h1,k,hk1,hk2⟩:=hs;obtain ⟨g,hgm,g1,g2,_,g4⟩:=gnext gom nv he hg (ar e he).1;refine ⟨e,hedge e he hg,g,hedge g hgm g4,g1,g2,by omega, ?_⟩;have id:=gom.p2 e k ⟨a,b,0⟩ g;rw [h1] at id;simp only [Int.zero_mul,Int.sub_zero] at id;have x1:=gom.xa k ⟨a,b,0⟩;have t1:=Int.mul_nonneg (show 0<=Xj e g by omega) hk2;have t2:Xj e g*Xj k ⟨a,b,0⟩ = -(Xj e g*Xj ⟨a,b,0⟩ k):=by rw [x1,Int.mul_neg]
     rcases Ji (Xj ⟨a,b,0⟩ g) 0 with h|h
     ·have t3:=Int.mul_pos hk1 (show 0 < -Xj ⟨a,b,0⟩ g by omega);rw [Int.mul_neg] at t3;omega
     ·exact h
    ·obtain ⟨h,hm',g,hgm,e1,e2,e3,e4,e5,e6⟩:=gfanA gom nv ar (f:=⟨a,b,0⟩) (λ e he hg h0 k hk=>by
      rcases Ji (Xj ⟨a,b,0⟩ k) 0 with h|h
      ·exact h
      ·exact absurd ⟨e,he,hg,h0,k,hk,h⟩ hs) ex
     exact ⟨h,hedge h hm' e1,g,hedge g hgm e2,e3,e4,e5,e6⟩
   obtain ⟨h,hh,g,hg,x1,x2,x3,x4⟩:=fan;obtain ⟨i,hi,ei⟩:=KJ hh;have C:=JJ hr hi;have nx:=(nxt_edge gd hne2 (i:=i) (by rw [hm];exact hi)).2;rw [hm] at nx;refine ⟨i,hi, ?_⟩;have hsd:0<(Jl (p.getD i Xe) (nxt p i)).d:=by have:=(ZQ.1 C.ok).1.1;omega
   rw [ei] at C nx hsd ⊢;have q1:=x2 _ (hsub _ (nxt_mem (p:=p) (i:=i) hi));have q2:=nx g (hsub g hg);have q3:Yj h (nxt p i) g = -Yj h g (nxt p i):=by
    have:=gom.da h (nxt p i) g;have:=gom.dc h g (nxt p i);have:=gom.dc g (nxt p i) h;have:=gom.dc (nxt p i) h g;omega
   have q4:Yj h (nxt p i) g=0:=by omega
   have q5:=det_at (g:=g) C.on1 C.on2;rw [q4,Int.zero_mul] at q5;have q6:=(Int.mul_eq_zero.1 q5.symm).resolve_left (by have:=C.turn;omega);exact fan_val (f:=⟨a,b,0⟩) x1 x3 x4 hd hsd C.on1 (by omega) (hp h hh) (hp g hg)
 obtain ⟨i,hi,hv⟩:=key;have hm:=hmax i (by rw [Y6];exact hi);have hdi:=hd1 i (by rw [Y6];exact hi);have hget:(X7 p).getD i JH=Jl (p.getD i Xe) (nxt p i):=by
  rw [far_get (by rw [Y6];exact hi),corners_at p i hi]
 simp only [KB,Kn] at hm;change _*(Jp p a b).2.2<=(Jp p a b).2.1*_ at hm
 rw [hget] at hm hdi;have hn:=B.n;have hdd:=B.d;have tot:=ZP (a:=a*x+b*y) (b:=d) (e:=(Jp p a b).2.1) (f:=(Jp p a b).2.2) (show 0<(Jl (p.getD i Xe) (nxt p i)).d by omega) (by omega) (by omega) hv hm;obtain ⟨ok,k,hk,e1,e2⟩:=ZR (n:=(Jp p a b).2.1) (d:=(Jp p a b).2.2) ⟨by omega,by omega⟩ ⟨by omega,by omega⟩;change (Jp p a b).2.1=k*(Jz p a b).n at e1
 change (Jp p a b).2.2=k*(Jz p a b).d at e2
 rw [e1,e2] at tot;have t2:k*((a*x+b*y)*(Jz p a b).d)<=k*((Jz p a b).n*d):=by
  have r1:(a*x+b*y)*(k*(Jz p a b).d)=k*((a*x+b*y)*(Jz p a b).d):=by grind
  have r2:k*(Jz p a b).n*d=k*((Jz p a b).n*d):=by rw [Int.mul_assoc]
  omega
 exact Int.le_of_mul_le_mul_left t2 hk
end Go.Proofs.YtabfdkpdppemaaaGreat
