/-
 The edges of a region span it: a half plane of the list is implied by two edges; a region's edges make the region again.
 Conditions: none.
-/
import Derived.Test.YtbekjpkcicjcgabGreatGrL
namespace Go.Proofs.YtbekjpkcicjcgabGreat
open Go.RowKit
theorem Jk (a b:Int):a<b∨a ≥ b:=by omega
section
variable {α:Type} {X:α->α->Int} {D:α->α->α->Int} {L:List α}
theorem gfan (o:GOM X D) (nv:GNV X D L) (ar:∀ h∈L,(∃ g∈L,0<X h g)/\(∃ g∈L,X h g<0)) (opp:∀ u∈L,∀ v∈L,u≠v->X u v=0->∀ k,0<X u k->X v k<0)
 (ex:∃ e∈L,Yv X D L e) {f:α} (hf:f∈L) (hn:¬ Yv X D L f) :
 ∃ h∈L,∃ g∈L,Yv X D L h/\Yv X D L g/\0<X h g/\(∀ k∈L,0<=D h g k)/\0<=X h f/\0<=X f g:=by
 have step1:∃ e∈L,Yv X D L e/\0<X e f:=by
  apply Classical.byContradiction;intro hno;have hle:∀ e∈L,Yv X D L e->X e f<=0:=λ e he hg=>by
   rcases Jk 0 (X e f) with h|h
   ·exact absurd ⟨e,he,hg,h⟩ hno
   ·exact h
  by_cases hz:∃ e∈L,Yv X D L e/\X e f=0
  ·obtain ⟨e,he,hg,h0⟩:=hz;obtain ⟨g,hgm,h1,_,_,h2⟩:=gnext o nv he hg (ar e he).1;have h3:=opp e he f hf (λ q=>hn (q ▸ hg)) h0 g h1;have h4:=hle g hgm h2;have:=o.xa g f;omega
  ·have hlt:∀ e∈L,Yv X D L e->X e f<0:=λ e he hg=>by
    have:=hle e he hg;rcases Classical.em (X e f=0) with h|h
    ·exact absurd ⟨e,he,hg,h⟩ hz
    ·omega
   obtain ⟨e0,he0,hg0⟩:=ex;obtain ⟨m,hm,⟨hmg,hmf⟩,hmax⟩:=KM (P:=λ g=>Yv X D L g/\X g f<0) (le:=λ a b=>0<=X b a)
    (by intro a b _ _;have:=o.xa a b;omega)
    (by
     rintro a b c ⟨_,ha⟩ ⟨_,hb⟩ ⟨_,hc⟩ h1 h2;have id:=o.p2 c b a f;have t1:=Int.mul_nonneg h2 (show 0<=-X a f by omega);have t2:=Int.mul_nonneg (show 0<=-X c f by omega) h1;rcases Jk (X c a) 0 with h|h
     ·have t3:=Int.mul_pos (show 0 < -X c a by omega) (show 0 < -X b f by omega);rw [Int.neg_mul_neg] at t3;rw [Int.mul_neg] at t1;rw [Int.neg_mul] at t2;omega
     ·exact h) L ⟨e0,he0,hg0,hlt e0 he0 hg0⟩
   obtain ⟨g,hgm,h1,_,_,h2⟩:=gnext o nv hm hmg (ar m hm).1;have:=hmax g hgm ⟨h2,hlt g hgm h2⟩;have:=o.xa m g;omega
 obtain ⟨e0,he0,hg0,hp0⟩:=step1;obtain ⟨h,hm,⟨hmg,hmf⟩,hmax⟩:=KM (P:=λ g=>Yv X D L g/\0<X g f) (le:=λ a b=>0<=X b a)
  (by intro a b _ _;have:=o.xa a b;omega)
  (by
   rintro a b c ⟨_,ha⟩ ⟨_,hb⟩ ⟨_,hc⟩ h1 h2;have id:=o.p2 c b a f;have t1:=Int.mul_nonneg h2 (show 0<=X a f by omega);have t2:=Int.mul_nonneg (show 0<=X c f by omega) h1;exact gmn (a:=X b f) (by rw [Int.mul_comm];omega) hb) L ⟨e0,he0,hg0,hp0⟩
 obtain ⟨g,hgm,h1,hin,_,h2⟩:=gnext o nv hm hmg (ar h hm).1;refine ⟨h,hm,g,hgm,hmg,h2,h1,hin,by omega, ?_⟩;rcases Jk 0 (X g f) with hq|hq
 ·have:=hmax g hgm ⟨h2,hq⟩;have:=o.xa h g;omega
 ·have:=o.xa f g;omega
theorem JH (o:GOM X D) {h g0 k0:α} {M:List α} (p:0<X g0 h) (q:0<X h k0) (r:0<D g0 h k0) (v1:∀ f∈M,0<=D h k0 f) (v2:∀ f∈M,0<=D g0 h f):Yv X D M h:=by
 intro g hg k hk xg xk;have a1:=v1 g hg;have a2:=v1 k hk;have b1:=v2 g hg;have b2:=v2 k hk;have c1:=o.dc g0 h k0;have c2:=o.dc g0 h g;have c3:=o.dc g0 h k;have x1:=o.xa g0 h;have x2:=o.xa g h;have i1:=o.p3 h k0 k g0;have e1:=o.d23 h k0 g0;have t1:=Int.mul_nonneg a2 (show 0<=-X h g0 by omega);have t2:=Int.mul_pos (show 0<D h k0 g0 by omega) xk;have s1:0<D h k g0:=by
  have t3:0<X h k0*D h k g0:=by rw [Int.mul_neg] at t1;omega
  exact gmp t3 q
 have i2:=o.p3 h k g g0;have e2:=o.d23 h k g0;have t4:=Int.mul_nonneg (show 0<=D h g g0 by omega) (Int.le_of_lt xk);have t5:=Int.mul_pos s1 (show 0 < -X h g by omega);have s2:0<D h k g:=by
  have t6:0<(-X h g0)*D h k g:=by
   rw [Int.mul_neg] at t5;rw [Int.neg_mul,Int.mul_comm (X h g0)];rw [Int.mul_comm (D h g g0)] at t4;omega
  exact gmp t6 (by omega)
 have:=o.dc g h k;omega
end
theorem opp_of {l:List Half} (g:Zh l):∀ u∈l,∀ v∈l,u≠v->Xp u v=0->∀ k,0<Xp u k->Xp v k<0:=by
 intro u hu v hv hne hx k hk;obtain ⟨_,h1,h2⟩:=g.opp hu hv hne hx;have:=opp_crs h1 h2 k;have c1:=Y3 k u;have c2:=Y3 k v;have su:=Yz (g.nz u hu);have sv:=Yz (g.nz v hv);rcases Jk (Xp v k) 0 with h|h
 ·exact h
 ·exfalso;have t1:=Int.mul_pos sv hk;have t2:=Int.mul_nonneg (Int.le_of_lt su) h;rw [c1,c2,Int.mul_neg,Int.mul_neg] at this;omega
def Yp (f:Half) (x y d:Int):Prop:=f.a*x+f.b*y<=f.c*d
theorem edges_span {l:List Half} (g:Zh l) (hn:¬ GVoid l) (ex:∃ e∈l,Yv Xp Ya l e) {x y d:Int} (hd:0<=d) (hp:∀ e∈l,Yv Xp Ya l e->Yp e x y d):∀ f∈l,Yp f x y d:=by
 intro f hf;by_cases he:Yv Xp Ya l f
 ·exact hp f hf he
 ·obtain ⟨h,hh,k,hk,eh,ek,hx,hin,h1,h2⟩:=gfan gom (g.nv hn) (λ h hh=>g.around (g.nz h hh)) (opp_of g) ex hf he;have q1:=hp h hh eh;have q2:=hp k hk ek;have q3:=hin f hf;unfold Yp at *;have id:Xp h k*(f.c*d-(f.a*x+f.b*y))=Xp f k*(h.c*d-(h.a*x+h.b*y))+Xp h f*(k.c*d-(k.a*x+k.b*y))+d*Ya h k f:=by
   simp only [Xp,Ya];grind
  have t1:=Int.mul_nonneg h2 (show 0<=h.c*d-(h.a*x+h.b*y) by omega);have t2:=Int.mul_nonneg h1 (show 0<=k.c*d-(k.a*x+k.b*y) by omega);have t3:=Int.mul_nonneg hd q3;have:=gmn (a:=Xp h k) (by rw [id];omega) hx;omega
theorem Je {h k f:Half} (hx:0<Xp h k):0<=Ya h k f ↔ Yp f (J2 h k) (J0 h k) (ZZ h k):=by
 have:=cr_in h k f;rw [if_neg (by omega)] at this;unfold Yp;omega
theorem holds_cov {y f:Half} (ny:Kn y) (nf:Kn f) (c:GCov y f) {a b d:Int} (hd:0<=d) (hp:Yp y a b d):Yp f a b d:=by
 obtain ⟨s,hc⟩:=c;obtain ⟨e1,e2⟩:=Jz ny nf s;have sy:=Yz ny;have sf:=Yz nf;unfold Yp at *;have t1:=Int.mul_le_mul_of_nonneg_right hp (Int.le_of_lt sf);have t2:=Int.mul_le_mul_of_nonneg_right hc hd;have id:XU y*(f.c*d-(f.a*a+f.b*b))=(f.c*XU y*d-y.c*XU f*d)+(y.c*d*XU f-(y.a*a+y.b*b)*XU f):=by
  have:f.a*XU y=y.a*XU f:=e1.symm;have:f.b*XU y=y.b*XU f:=e2.symm;grind
 have:=gmn (a:=XU y) (b:=f.c*d-(f.a*a+f.b*b)) (by rw [id];omega) sy;omega
theorem meetI_nvoid {m:List Half} (h:¬ voidB m=true):Xw m=m.filter (Kj m):=by unfold Xw;rw [if_neg h]
section
variable {l:List Half}
theorem Zw (gd:Zh l) {h:Half}:h∈Xw l->h∈l/\Yv Xp Ya l h:=by
 intro hh;unfold Xw at hh;split at hh
 ·cases hh
 ·obtain ⟨h1,h2⟩:=List.mem_filter.1 hh;exact ⟨h1,(edge_iff gd (gd.nz h h1)).1 h2⟩
theorem JR (gd:Zh l) (hne:Xw l≠[]):¬ GVoid l:=by
 intro hv;apply hne;unfold Xw;rw [if_pos ((Jv gd).2 hv)]
theorem mem_meetI (gd:Zh l) (hne:Xw l≠[]) {h:Half} (h1:h∈l) (h2:Yv Xp Ya l h):h∈Xw l:=by
 have hv:=JR gd hne;unfold Xw;rw [if_neg (λ h=>hv ((Jv gd).1 h))];exact List.mem_filter.2 ⟨h1,(edge_iff gd (gd.nz h h1)).2 h2⟩
theorem meetI_ex (gd:Zh l) (hne:Xw l≠[]):∃ e∈l,Yv Xp Ya l e:=by
 obtain ⟨e,he⟩:=List.exists_mem_of_ne_nil _ hne;exact ⟨e,Zw gd he⟩
theorem meetI_span (gd:Zh l) (hne:Xw l≠[]) {x y d:Int} (hd:0<=d) (hp:∀ e∈Xw l,Yp e x y d):∀ f∈l,Yp f x y d :=
 edges_span gd (JR gd hne) (meetI_ex gd hne) hd (λ e he h=>hp e (mem_meetI gd hne he h))
theorem J6 (gd:Zh l):K4 (Xw l):=by
 unfold Xw;split
 ·exact List.Pairwise.nil
 ·exact List.Pairwise.filter _ gd.sorted
theorem Jo (gd:Zh l) (hn:¬ GVoid l) {h:Half} (hh:h∈l) (e:Yv Xp Ya l h) :
 ∃ g0∈l,∃ k0∈l,Yv Xp Ya l g0/\Yv Xp Ya l k0/\0<Xp g0 h/\0<Xp h k0/\0<Ya g0 h k0/\(∀ f∈l,0<=Ya h k0 f)/\∀ f∈l,0<=Ya g0 h f:=by
 have nv:=gd.nv hn;have a:=gd.around (gd.nz h hh);obtain ⟨k0,hk,k1,k2,_,k3⟩:=gnext gom nv hh e a.1;obtain ⟨g0,hg,g1,g2,g3⟩:=gprev gom nv hh e a.2;have x0:=Y3 g0 h;refine ⟨g0,hg,k0,hk,g3,k3,by omega,k1,e g0 hg k0 hk (by omega) k1,k2,λ f hf=>?_⟩;have h1:=g2 f hf;have h2:=gom.da g0 h f;omega
theorem again_cov (gd:Zh l) (_:∀ f∈l,Xq f=true) {h:Half} (hh:h∈Yj++Xw l):∃ y∈l,GCov y h:=by
 rcases List.mem_append.1 hh with h1|h1
 ·simp only [Yj,List.mem_cons,List.not_mem_nil,or_false] at h1;rcases h1 with rfl|rfl|rfl|rfl
  ·exact gd.e
  ·exact gd.n
  ·exact gd.w
  ·exact gd.s
 ·exact ⟨h,(Zw gd h1).1,JT h⟩
theorem again_ok (gd:Zh l) (ok:∀ f∈l,Xq f=true):∀ h∈Xw l,Xq h=true:=λ h hh=>ok h (Zw gd hh).1
theorem Jp (gd:Zh l) (ok:∀ f∈l,Xq f=true) {h:Half} (hh:h∈Xw l):h∈Xk (Xw l):=by
 have hl:=Zw gd hh;have mok:=again_ok gd ok;have nz:∀ f∈Yj++Xw l,Kn f:=λ f hf=>(KE (Ze mok f hf)).n;have c:=YI nz;obtain ⟨x,hx,cx⟩:=c.cov h (List.mem_append_right _ hh);have hx':=c.mem x hx;obtain ⟨y,hy,cy⟩:=again_cov gd ok hx';have nx:=nz x hx';have s:=same_trans (gd.nz y hy) nx cy.1 cx.1;have e:=gd.sorted.same gd.nz hy hl.1 s;subst e;have:=half_eq (Ze mok x hx') (ok y hy) cx.1 (by have:=cx.2;have:=cy.2;omega);subst this;exact hx
theorem again_nv (gd:Zh l) (ok:∀ f∈l,Xq f=true) (hne:Xw l≠[]):¬ GVoid (Xk (Xw l)):=by
 have mok:=again_ok gd ok;have g2:=Zj mok;have c:=YI (hs:=Yj++Xw l) (λ f hf=>(KE (Ze mok f hf)).n);rintro ⟨u,hu,v,hv,huv,hx,hr⟩;apply JR gd hne;obtain ⟨p,hp,cp⟩:=again_cov gd ok (c.mem u hu);obtain ⟨q,hq,cq⟩:=again_cov gd ok (c.mem v hv);obtain ⟨ZS,_,_⟩:=g2.opp hu hv huv hx;have nu:=g2.nz u hu;have nv:=g2.nz v hv;have np:=gd.nz p hp;have nq:=gd.nz q hq;have s1:=(Kg.1 cp.1).2;have s2:=(Kg.1 cq.1).2;have e1:=same_crs np nu cp.1 q;have e2:=same_crs nq nv cq.1 u;rw [Y3 v u,hx,Int.neg_zero,Int.mul_zero] at e2;have su:=Yz nu;have sv:=Yz nv;have sp:=Yz np;have sq:=Yz nq;have e3:Xp q u=0:=gmz e2 (by omega);rw [Y3 u q,e3,Int.neg_zero,Int.mul_zero] at e1;refine ⟨p,hp,q,hq,λ e=>ZS ?_,gmz e1 (by omega),λ hpos=>hr ?_⟩
 ·subst e;rw [<- s1,<- s2]
 ·have c1:=Int.mul_le_mul_of_nonneg_right cp.2 (Int.le_of_lt (Int.mul_pos sv sq));have c2:=Int.mul_le_mul_of_nonneg_right cq.2 (Int.le_of_lt (Int.mul_pos su sp));have t:=Int.mul_pos hpos (Int.mul_pos su sv);have id:(XU p*XU q)*(u.c*XU v+v.c*XU u)=(u.c*XU p)*(XU v*XU q)+(v.c*XU q)*(XU u*XU p):=by grind
  have id2:(p.c*XU q+q.c*XU p)*(XU u*XU v)=(p.c*XU u)*(XU v*XU q)+(q.c*XU v)*(XU u*XU p):=by grind
  exact gmp (a:=XU p*XU q) (by rw [id];omega) (Int.mul_pos sp sq)
theorem meet_again (gd:Zh l) (ok:∀ f∈l,Xq f=true) (hne:Xw l≠[]):Xw (Xk (Xw l))=Xw l:=by
 have mok:=again_ok gd ok;have g2:=Zj mok;have ok2:=meetL_ok mok;have hn:=JR gd hne;have hn2:=again_nv gd ok hne;have c:=YI (hs:=Yj++Xw l) (λ f hf=>(KE (Ze mok f hf)).n);have fwd:∀ h∈Xw l,Yv Xp Ya (Xk (Xw l)) h:=by
  intro h hh;obtain ⟨hl,he⟩:=Zw gd hh;obtain ⟨g0,hg,k0,hk,_,_,p,q,r,v1,v2⟩:=Jo gd hn hl he;have low:∀ f∈Xk (Xw l),∀ a b,0<Xp a b->(∀ k∈l,0<=Ya a b k)->0<=Ya a b f:=by
   intro f hf a b hab hin;obtain ⟨y,hy,cy⟩:=again_cov gd ok (c.mem f hf);exact (Je hab).2 (holds_cov (gd.nz y hy) (g2.nz f hf) cy (Int.le_of_lt (ZL (by omega))) ((Je hab).1 (hin y hy)))
  exact JH gom p q r (λ f hf=>low f hf h k0 q v1) (λ f hf=>low f hf g0 h p v2)
 have ex2:∃ e∈Xk (Xw l),Yv Xp Ya (Xk (Xw l)) e:=by
  obtain ⟨e,he⟩:=List.exists_mem_of_ne_nil _ hne;exact ⟨e,Jp gd ok he,fwd e he⟩
 have bwd:∀ h∈Xk (Xw l),Yv Xp Ya (Xk (Xw l)) h->h∈Xw l:=by
  intro h hh he;rcases List.mem_append.1 (c.mem h hh) with hfr|hfr
  ·obtain ⟨g0,hg,k0,hk,_,_,p,q,r,v1,v2⟩:=Jo g2 hn2 hh he;have up:∀ f∈l,∀ a b,0<Xp a b->(∀ k∈Xk (Xw l),0<=Ya a b k)->0<=Ya a b f:=by
    intro f hf a b hab hin;exact (Je hab).2 (meetI_span gd hne (Int.le_of_lt (ZL (by omega))) (λ e he=>(Je hab).1 (hin e (Jp gd ok he))) f hf)
   obtain ⟨y,hy,cy⟩:=again_cov gd ok (List.mem_append_left (Xw l) hfr);have hyh:y.c*XU h=h.c*XU y:=by
    have t:=up y hy h k0 q v1;have n1:=gd.nz y hy;have n2:=g2.nz h hh;obtain ⟨e1,e2⟩:=Jz n1 n2 cy.1;have id:XU h*Ya h k0 y=XU y*Ya h k0 h+Xp h k0*(y.c*XU h-h.c*XU y):=by
     simp only [Ya,Xp];grind
    rw [gom.d0 h k0,Int.mul_zero,Int.zero_add] at id;have t2:=Int.mul_nonneg (Int.le_of_lt (Yz n2)) t;rw [id] at t2;have:=gmn t2 q;have:=cy.2;omega
   have:=half_eq (ok y hy) (ok2 h hh) cy.1 hyh;subst this;exact mem_meetI gd hne hy (JH gom p q r (λ f hf=>up f hf y k0 q v1) (λ f hf=>up f hf g0 y p v2))
  ·exact hfr
 refine gsorted_ext (J6 g2) (J6 gd) (λ x=>⟨λ hx=>?_,λ hx=>?_⟩)
 ·obtain ⟨h1,h2⟩:=Zw g2 hx;exact bwd x h1 h2
 ·have hv2:¬ voidB (Xk (Xw l))=true:=λ h=>hn2 ((Jv g2).1 h);rw [meetI_nvoid hv2];exact List.mem_filter.2 ⟨Jp gd ok hx,(edge_iff g2 (g2.nz x (Jp gd ok hx))).2 (fwd x hx)⟩
end
theorem regionOk_meet {hs:List Half} (hok:∀ h∈hs,Xq h=true) (hl:(Xw (Xk hs)).length<=40):Xc (Xw (Xk hs))=true:=by
 have gd:=Zj hok;have ok:=meetL_ok hok;by_cases hne:Xw (Xk hs)=[]
 ·rw [hne];rfl
 ·have ha:=meet_again gd ok hne;have hall:(Xw (Xk hs)).all Xq=true:=by
   rw [List.all_eq_true];exact again_ok gd ok
  have hr:JB (Xw (Xk hs))=true:=by
   unfold JB Yw;rw [ha,hall,decide_eq_true hl];rfl
  unfold Xc rfR;rw [if_pos hr,hr,ha];simp [eqB]
theorem meet_holds {hs:List Half} (hok:∀ h∈hs,Xq h=true) (hne:Xw (Xk hs)≠[]) {x y d:Int} (hd:0<=d) :
 (∀ e∈Xw (Xk hs),Yp e x y d) ↔ (∀ h∈Yj++hs,Yp h x y d):=by
 have gd:=Zj hok;have c:=YI (hs:=Yj++hs) (λ f hf=>(KE (Ze hok f hf)).n);constructor
 ·intro hp h hh;obtain ⟨z,hz,cz⟩:=c.cov h hh;exact holds_cov (gd.nz z hz) (KE (Ze hok h hh)).n cz hd (meetI_span gd hne hd hp z hz)
 ·intro hp e he;exact hp e (c.mem e (Zw gd he).1)
theorem up_bef {u v:Half} (uu:ZS u=true) (uv:ZS v=true):ZF u v=true ↔ 0<Xp u v:=by
 unfold ZF;rw [uu,uv];simp
theorem up_tr {u v w:Half} (nu:Kn u) (nv:Kn v) (nw:Kn w) (uu:ZS u=true) (uv:ZS v=true) (uw:ZS w=true) (h1:0<Xp u v) (h2:0<Xp v w):0<Xp u w :=
 (up_bef uu uw).1 (bef_trans nu nv nw ((up_bef uu uv).2 h1) ((up_bef uv uw).2 h2))
theorem neg_up {h:Half} (n:Kn h) (e:ZS h=false):ZS (hneg h)=true:=by rw [neg_upper n,e];rfl
theorem JK {u v:Half} (h:ZF u v=true):(ZS u=ZS v/\0<Xp u v)∨(ZS u=true/\ZS v=false):=by
 unfold ZF at h;by_cases e:ZS u=ZS v
 ·rw [if_pos e] at h;exact .inl ⟨e,by simpa using h⟩
 ·rw [if_neg e] at h;refine .inr ⟨h, ?_⟩;rw [h] at e;cases hv:ZS v
  ·rfl
  ·rw [hv] at e;exact absurd rfl e
theorem bef_mid {h f k:Half} (nh:Kn h) (nf:Kn f) (nk:Kn k) (h1:ZF h f=true) (h2:ZF f k=true) (x:0<Xp h k):0<Xp h f/\0<Xp f k:=by
 have a1:=Y3 k h;rcases JK h1 with ⟨e1,c1⟩|⟨e1,e2⟩
 ·rcases JK h2 with ⟨e3,c2⟩|⟨e3,e4⟩
  ·exact ⟨c1,c2⟩
  ·refine ⟨c1, ?_⟩;have:=up_tr (neg_nz nk) nh nf (neg_up nk e4) (e1.trans e3) e3 (by rw [crs_neg];omega) c1;rw [crs_neg] at this;have:=Y3 f k;omega
 ·rcases JK h2 with ⟨e3,c2⟩|⟨e3,e4⟩
  ·refine ⟨?_,c2⟩;have:=up_tr (neg_nz nf) (neg_nz nk) nh (neg_up nf e2) (neg_up nk (e3 ▸ e2)) e1 (by rw [crs_neg,crs_neg2];omega) (by rw [crs_neg];omega);rw [crs_neg] at this;have:=Y3 h f;omega
  ·rw [e2] at e3;cases e3
theorem bef_wrap1 {k h f:Half} (nk:Kn k) (nh:Kn h) (nf:Kn f) (h1:ZF k h=true) (h2:ZF h f=true) (x:0<Xp h k):0<Xp h f/\0<Xp f k:=by
 have a1:=Y3 k h;rcases JK h1 with ⟨e1,c1⟩|⟨e1,e2⟩
 ·omega
 ·rcases JK h2 with ⟨e3,c2⟩|⟨e3,e4⟩
  ·refine ⟨c2, ?_⟩;have:=up_tr nk (neg_nz nh) (neg_nz nf) e1 (neg_up nh e2) (neg_up nf (e3 ▸ e2)) (by rw [crs_neg2];omega) (by rw [crs_neg,crs_neg2];omega);rw [crs_neg2] at this;have:=Y3 f k;omega
  ·rw [e2] at e3;cases e3
theorem bef_wrap2 {f k h:Half} (nf:Kn f) (nk:Kn k) (nh:Kn h) (h1:ZF f k=true) (h2:ZF k h=true) (x:0<Xp h k):0<Xp h f/\0<Xp f k:=by
 have a1:=Y3 k h;rcases JK h2 with ⟨e1,c1⟩|⟨e1,e2⟩
 ·omega
 ·rcases JK h1 with ⟨e3,c2⟩|⟨e3,e4⟩
  ·refine ⟨?_,c2⟩;have:=up_tr nf nk (neg_nz nh) (e3.trans e1) e1 (neg_up nh e2) c2 (by rw [crs_neg2];omega);rw [crs_neg2] at this;have:=Y3 h f;omega
  ·rw [e1] at e4;cases e4
def nxt (p:List Half) (i:Nat):Half:=p.getD ((i+1) % p.length) Xb
theorem nxt_mem {p:List Half} {i:Nat} (h:i<p.length):nxt p i∈p:=Zs (Nat.mod_lt _ (by omega))
theorem nxt_edge {l:List Half} (gd:Zh l) (hne:Xw l≠[]) {i:Nat} (hi:i<(Xw l).length) :
 0<Xp ((Xw l).getD i Xb) (nxt (Xw l) i)/\∀ f∈l,0<=Ya ((Xw l).getD i Xb) (nxt (Xw l) i) f:=by
 have hn:=JR gd hne;have hs:=J6 gd;have hp:=Zs hi;obtain ⟨hl,he⟩:=Zw gd hp;obtain ⟨_,_,k0,hk,_,ek,_,q,_,v1,_⟩:=Jo gd hn hl he;have hk':=mem_meetI gd hne hk ek;have hm:(i+1) % (Xw l).length<(Xw l).length:=Nat.mod_lt _ (by omega);have hmp:=Zs hm;obtain ⟨fl,fe⟩:=Zw gd hmp;obtain ⟨j,hj,ej⟩:=KY hk';have pw:∀ a b,a<b->b<(Xw l).length->ZF ((Xw l).getD a Xb) ((Xw l).getD b Xb)=true:=by
  intro a b hab hb;have:=List.pairwise_iff_getElem.1 hs a b (by omega) hb hab;rw [List.getD_eq_getElem?_getD,List.getD_eq_getElem?_getD,List.getElem?_eq_getElem hb,List.getElem?_eq_getElem (by omega:a<(Xw l).length)];exact this
 unfold nxt;by_cases hmj:(i+1) % (Xw l).length=j
 ·rw [hmj,ej];exact ⟨q,v1⟩
 ·exfalso;have hji:j≠i:=by
   rintro rfl;rw [ej,gom.x0] at q;omega
  have nh:=gd.nz _ hl;have nk:=gd.nz _ hk;have nf:=gd.nz _ fl;suffices 0<Xp ((Xw l).getD i Xb) ((Xw l).getD ((i+1) % (Xw l).length) Xb)/\0<Xp ((Xw l).getD ((i+1) % (Xw l).length) Xb) k0 from
   none_between gom hl hk fl v1 this.1 this.2 fe
  rw [<- ej] at q nk ⊢;by_cases h1:i+1<(Xw l).length
  ·rw [Nat.mod_eq_of_lt h1] at hmj nf ⊢;rcases Nat.lt_or_ge j i with h2|h2
   ·exact bef_wrap1 nk nh nf (pw j i h2 hi) (pw i (i+1) (by omega) h1) q
   ·exact bef_mid nh nf nk (pw i (i+1) (by omega) h1) (pw (i+1) j (by omega) hj) q
  ·have h2:i+1=(Xw l).length:=by omega
   rw [h2,Nat.mod_self] at hmj nf ⊢;exact bef_wrap2 nf nk nh (pw 0 j (by omega) hj) (pw j i (by omega) hi) q
theorem reg_iff {p:List Half} (h:Xc p=true):p=[]∨(p.length<=40/\(∀ h∈p,Xq h=true)/\Xw (Xk p)=p):=by
 unfold Xc at h;rw [Bool.or_eq_true] at h;rcases h with h|h
 ·exact .inl (List.length_eq_zero_iff.1 (by simpa using h))
 ·rw [Bool.and_eq_true] at h;obtain ⟨h1,h2⟩:=h;unfold rfR at h2;rw [if_pos h1] at h2;unfold JB at h1;simp only [Bool.and_eq_true,decide_eq_true_eq,List.all_eq_true] at h1;exact .inr ⟨h1.1.1,h1.1.2,by simpa [eqB] using (Eq.symm (by simpa [eqB] using h2:p=_))⟩
theorem Z1 {p:List Half} (h:Xc p=true):∀ h∈p,Xq h=true:=by
 rcases reg_iff h with rfl|h
 ·intro x hx;cases hx
 ·exact h.2.1
def JJ (h k:Half):XW:=(Y9 (J2 h k) (J0 h k) (ZZ h k)).getD spot0
def XD (p:List Half):List XW:=(List.range p.length).map λ i=>JJ (p.getD i Xb) (nxt p i)
theorem YY (p:List Half):(XD p).length=p.length:=by simp [XD]
theorem corners_at (p:List Half) (i:Nat) (h:i<p.length):(XD p)[i]'(by rw [YY];exact h)=JJ (p.getD i Xb) (nxt p i):=by simp [XD]
structure Cnr (p:List Half) (h k:Half) (s:XW):Prop where
 ok:XP s=true
 ins:∀ f∈p,Yp f s.x s.y s.d
 on1:h.a*s.x+h.b*s.y=h.c*s.d
 on2:k.a*s.x+k.b*s.y=k.c*s.d
 turn:0<Xp h k
 sp:Y9 (J2 h k) (J0 h k) (ZZ h k)=some s
theorem reg_corner {p:List Half} (hr:Xc p=true) {i:Nat} (hi:i<p.length):Cnr p (p.getD i Xb) (nxt p i) (JJ (p.getD i Xb) (nxt p i)):=by
 rcases reg_iff hr with rfl|⟨hl,hok,hm⟩
 ·cases hi
 ·have gd:=Zj hok;have ok2:=meetL_ok hok;have hne:Xw (Xk p)≠[]:=by rw [hm];intro e;rw [e] at hi;cases hi
  have hne':=nxt_edge gd hne (by rw [hm];exact hi);rw [hm] at hne';obtain ⟨hx,hin⟩:=hne';have h1:=Zs hi;have h2:=nxt_mem hi;generalize p.getD i Xb=h at *;generalize nxt p i=k at *;have hk1:=hok h h1;have hk2:=hok k h2;have sub:∀ f∈p,f∈Xk p:=λ f hf=>(Zw gd (by rw [hm];exact hf)).1;have gi:gIn (Xk p) h k=true:=(gIn_iff gd).2 ⟨by omega,λ f hf=>Int.mul_nonneg (by omega) (hin f hf)⟩;obtain ⟨e1,hd⟩:=gIn_spot hk1 hk2 gi;have gi2:=gi;unfold gIn inPt at gi2;simp only [Bool.and_eq_true,decide_eq_true_eq] at gi2;obtain ⟨⟨⟨⟨⟨h0,q1⟩,q2⟩,q3⟩,q4⟩,_⟩:=gi2;obtain ⟨_,ok⟩:=spotOf_in (x:=J2 h k) (y:=J0 h k) (d:=ZZ h k) ⟨by omega,crD_le hk1 hk2⟩ ⟨q2,q1⟩ ⟨q4,q3⟩;have rs:=red_scale (x:=J2 h k) (y:=J0 h k) (d:=ZZ h k) (by omega);have es:JJ h k=Z9 (J2 h k) (J0 h k) (ZZ h k):=by unfold JJ;rw [e1];rfl
  rw [es];have on1:=cr_on h k;have on2:k.a*J2 h k+k.b*J0 h k=k.c*ZZ h k:=by
   have:=cr_in h k k;rw [if_neg (by omega),gom.d1] at this;omega
  have hall:∀ f∈p,Yp f (J2 h k) (J0 h k) (ZZ h k):=λ f hf=>(Je hx).1 (hin f (sub f hf));generalize Z9 (J2 h k) (J0 h k) (ZZ h k)=s at *;generalize hX:J2 h k=X at *;generalize hY:J0 h k=Y at *;generalize hD:ZZ h k=D at *;obtain ⟨pg,ex,ey,ed⟩:=rs;generalize ((Xh [X,Y,D]:Nat):Int)=g at *;refine ⟨ok,λ f hf=>?_, ?_, ?_,hx,by rw [hX,hY,hD];exact e1⟩
  ·have:=hall f hf;unfold Yp at *;have id:g*(f.c*s.d-(f.a*s.x+f.b*s.y))=f.c*D-(f.a*X+f.b*Y):=by rw [ex,ey,ed];grind
   have:=gmn (a:=g) (b:=f.c*s.d-(f.a*s.x+f.b*s.y)) (by omega) pg;omega
  ·have id:g*(h.a*s.x+h.b*s.y-h.c*s.d)=h.a*X+h.b*Y-h.c*D:=by rw [ex,ey,ed];grind
   have:=gmz (a:=g) (b:=h.a*s.x+h.b*s.y-h.c*s.d) (by omega) (by omega);omega
  ·have id:g*(k.a*s.x+k.b*s.y-k.c*s.d)=k.a*X+k.b*Y-k.c*D:=by rw [ex,ey,ed];grind
   have:=gmz (a:=g) (b:=k.a*s.x+k.b*s.y-k.c*s.d) (by omega) (by omega);omega
end Go.Proofs.YtbekjpkcicjcgabGreat
