/-
 The edges of a region span it: a half plane of the list is implied by two edges; a region's edges make the region again.
 Conditions: none.
-/
import Derived.Test.YtbekjpkcicjcgaaGreatGrL
namespace Go.Proofs.YtbekjpkcicjcgaaGreat
open Go.RowKit
theorem glt_or (a b:Int):a<b∨a ≥ b:=Oz
section
variable {α:Type} {X:α->α->Int} {D:α->α->α->Int} {L:List α}
theorem gfan (o:GOM X D) (nv:GNV X D L) (ar:∀ h∈L,(∃ g∈L,0<X h g)/\(∃ g∈L,X h g<0)) (opp:∀ u∈L,∀ v∈L,u≠v->X u v=0->∀ k,0<X u k->X v k<0)
 (ex:∃ e∈L,Zz X D L e) {f:α} (hf:f∈L) (hn:¬ Zz X D L f) :
 ∃ h∈L,∃ g∈L,Zz X D L h/\Zz X D L g/\0<X h g/\(∀ k∈L,0<=D h g k)/\0<=X h f/\0<=X f g:=by
 have step1:∃ e∈L,Zz X D L e/\0<X e f:=by
  apply Classical.byContradiction;intro hno;have hle:∀ e∈L,Zz X D L e->X e f<=0:=λ e he hg=>by
   rcases glt_or 0 (X e f) with h|h
   ·exact absurd ⟨e,he,hg,h⟩ hno
   ·exact h
  by_cases hz:∃ e∈L,Zz X D L e/\X e f=0
  ·obtain ⟨e,he,hg,h0⟩:=hz;obtain ⟨g,hgm,h1,_,_,h2⟩:=gnext o nv he hg (ar e he).1;have h3:=opp e he f hf (λ q=>hn (q ▸ hg)) h0 g h1;have h4:=hle g hgm h2;have:=o.xa g f;omega
  ·have hlt:∀ e∈L,Zz X D L e->X e f<0:=λ e he hg=>by
    have:=hle e he hg;rcases Classical.em (X e f=0) with h|h
    ·exact absurd ⟨e,he,hg,h⟩ hz
    ·omega
   obtain ⟨e0,he0,hg0⟩:=ex;obtain ⟨m,hm,⟨hmg,hmf⟩,hmax⟩:=gexists_min (P:=λ g=>Zz X D L g/\X g f<0) (le:=λ a b=>0<=X b a)
    (by intro a b _ _;have:=o.xa a b;omega)
    (by
     rintro a b c ⟨_,ha⟩ ⟨_,hb⟩ ⟨_,hc⟩ h1 h2;have id:=o.p2 c b a f;have t1:=Int.mul_nonneg h2 (show 0<=-X a f by omega);have t2:=Int.mul_nonneg (show 0<=-X c f by omega) h1;rcases glt_or (X c a) 0 with h|h
     ·have t3:=Int.mul_pos (show 0 < -X c a by omega) (show 0 < -X b f by omega);rw [Int.neg_mul_neg] at t3;rw [Int.mul_neg] at t1;rw [Int.neg_mul] at t2;omega
     ·exact h) L ⟨e0,he0,hg0,hlt e0 he0 hg0⟩
   obtain ⟨g,hgm,h1,_,_,h2⟩:=gnext o nv hm hmg (ar m hm).1;have:=hmax g hgm ⟨h2,hlt g hgm h2⟩;have:=o.xa m g;omega
 obtain ⟨e0,he0,hg0,hp0⟩:=step1;obtain ⟨h,hm,⟨hmg,hmf⟩,hmax⟩:=gexists_min (P:=λ g=>Zz X D L g/\0<X g f) (le:=λ a b=>0<=X b a)
  (by intro a b _ _;have:=o.xa a b;omega)
  (by
   rintro a b c ⟨_,ha⟩ ⟨_,hb⟩ ⟨_,hc⟩ h1 h2;have id:=o.p2 c b a f;have t1:=Int.mul_nonneg h2 (show 0<=X a f by omega);have t2:=Int.mul_nonneg (show 0<=X c f by omega) h1;exact gmn (a:=X b f) (by rw [Int.mul_comm];omega) hb) L ⟨e0,he0,hg0,hp0⟩
 obtain ⟨g,hgm,h1,hin,_,h2⟩:=gnext o nv hm hmg (ar h hm).1;refine ⟨h,hm,g,hgm,hmg,h2,h1,hin,Oz, ?_⟩;rcases glt_or 0 (X g f) with hq|hq
 ·have:=hmax g hgm ⟨h2,hq⟩;have:=o.xa h g;omega
 ·have:=o.xa f g;omega
theorem edge_of_vertices (o:GOM X D) {h g0 k0:α} {M:List α} (p:0<X g0 h) (q:0<X h k0) (r:0<D g0 h k0) (v1:∀ f∈M,0<=D h k0 f) (v2:∀ f∈M,0<=D g0 h f):Zz X D M h:=by
 intro g hg k hk xg xk;have a1:=v1 g hg;have a2:=v1 k hk;have b1:=v2 g hg;have b2:=v2 k hk;have c1:=o.dc g0 h k0;have c2:=o.dc g0 h g;have c3:=o.dc g0 h k;have x1:=o.xa g0 h;have x2:=o.xa g h;have i1:=o.p3 h k0 k g0;have e1:=o.d23 h k0 g0;have t1:=Int.mul_nonneg a2 (show 0<=-X h g0 by omega);have t2:=Int.mul_pos (show 0<D h k0 g0 by omega) xk;have s1:0<D h k g0:=by
  have t3:0<X h k0*D h k g0:=by rw [Int.mul_neg] at t1;omega
  exact gmp t3 q
 have i2:=o.p3 h k g g0;have e2:=o.d23 h k g0;have t4:=Int.mul_nonneg (show 0<=D h g g0 by omega) (Int.le_of_lt xk);have t5:=Int.mul_pos s1 (show 0 < -X h g by omega);have s2:0<D h k g:=by
  have t6:0<(-X h g0)*D h k g:=by
   rw [Int.mul_neg] at t5;rw [Int.neg_mul,Int.mul_comm (X h g0)];rw [Int.mul_comm (D h g g0)] at t4;omega
  exact gmp t6 Oz
 have:=o.dc g h k;omega
end
theorem opp_of {l:List Half} (g:ZQ l):∀ u∈l,∀ v∈l,u≠v->XC u v=0->∀ k,0<XC u k->XC v k<0:=by
 intro u hu v hv hne hx k hk;obtain ⟨_,h1,h2⟩:=g.opp hu hv hne hx;have:=opp_crs h1 h2 k;have c1:=Zx k u;have c2:=Zx k v;have su:=YW (g.nz u hu);have sv:=YW (g.nz v hv);rcases glt_or (XC v k) 0 with h|h
 ·exact h
 ·exfalso;have t1:=Int.mul_pos sv hk;have t2:=Int.mul_nonneg (Int.le_of_lt su) h;rw [c1,c2,Int.mul_neg,Int.mul_neg] at this;omega
def JH (f:Half) (x y d:Int):Prop:=f.a*x+f.b*y<=f.c*d
theorem edges_span {l:List Half} (g:ZQ l) (hn:¬ GVoid l) (ex:∃ e∈l,Zz XC Za l e) {x y d:Int} (hd:0<=d) (hp:∀ e∈l,Zz XC Za l e->JH e x y d):∀ f∈l,JH f x y d:=by
 intro f hf;by_cases he:Zz XC Za l f
 ·exact hp f hf he
 ·obtain ⟨h,hh,k,hk,eh,ek,hx,hin,h1,h2⟩:=gfan gom (g.nv hn) (λ h hh=>g.around (g.nz h hh)) (opp_of g) ex hf he;have q1:=hp h hh eh;have q2:=hp k hk ek;have q3:=hin f hf;unfold JH at *;have id:XC h k*(f.c*d-(f.a*x+f.b*y))=XC f k*(h.c*d-(h.a*x+h.b*y))+XC h f*(k.c*d-(k.a*x+k.b*y))+d*Za h k f:=by
   simp only [XC,Za];grind
  have t1:=Int.mul_nonneg h2 (show 0<=h.c*d-(h.a*x+h.b*y) by omega);have t2:=Int.mul_nonneg h1 (show 0<=k.c*d-(k.a*x+k.b*y) by omega);have t3:=Int.mul_nonneg hd q3;have:=gmn (a:=XC h k) (by rw [id];omega) hx;omega
theorem det_holds {h k f:Half} (hx:0<XC h k):0<=Za h k f ↔ JH f (JR h k) (JQ h k) (Z7 h k):=by
 have:=cr_in h k f;rw [if_neg Oz] at this;unfold JH;omega
theorem holds_cov {y f:Half} (ny:KH y) (nf:KH f) (c:GCov y f) {a b d:Int} (hd:0<=d) (hp:JH y a b d):JH f a b d:=by
 obtain ⟨s,hc⟩:=c;obtain ⟨e1,e2⟩:=J2 ny nf s;have sy:=YW ny;have sf:=YW nf;unfold JH at *;have t1:=Int.mul_le_mul_of_nonneg_right hp (Int.le_of_lt sf);have t2:=Int.mul_le_mul_of_nonneg_right hc hd;have id:X5 y*(f.c*d-(f.a*a+f.b*b))=(f.c*X5 y*d-y.c*X5 f*d)+(y.c*d*X5 f-(y.a*a+y.b*b)*X5 f):=by
  have:f.a*X5 y=y.a*X5 f:=e1.symm;have:f.b*X5 y=y.b*X5 f:=e2.symm;grind
 have:=gmn (a:=X5 y) (b:=f.c*d-(f.a*a+f.b*b)) (by rw [id];omega) sy;omega
theorem meetI_nvoid {m:List Half} (h:¬ voidB m=true):X0 m=m.filter (KG m):=by unfold X0;rw [if_neg h]
section
variable {l:List Half}
theorem KR (gd:ZQ l) {h:Half}:h∈X0 l->h∈l/\Zz XC Za l h:=by
 intro hh;unfold X0 at hh;split at hh
 ·cases hh
 ·obtain ⟨h1,h2⟩:=List.mem_filter.1 hh;exact ⟨h1,(edge_iff gd (gd.nz h h1)).1 h2⟩
theorem meetI_nv (gd:ZQ l) (hne:X0 l≠[]):¬ GVoid l:=by
 intro hv;apply hne;unfold X0;rw [if_pos ((voidB_iff gd).2 hv)]
theorem mem_meetI (gd:ZQ l) (hne:X0 l≠[]) {h:Half} (h1:h∈l) (h2:Zz XC Za l h):h∈X0 l:=by
 have hv:=meetI_nv gd hne;unfold X0;rw [if_neg (λ h=>hv ((voidB_iff gd).1 h))];exact List.mem_filter.2 ⟨h1,(edge_iff gd (gd.nz h h1)).2 h2⟩
theorem meetI_ex (gd:ZQ l) (hne:X0 l≠[]):∃ e∈l,Zz XC Za l e:=by
 obtain ⟨e,he⟩:=List.exists_mem_of_ne_nil _ hne;exact ⟨e,KR gd he⟩
theorem meetI_span (gd:ZQ l) (hne:X0 l≠[]) {x y d:Int} (hd:0<=d) (hp:∀ e∈X0 l,JH e x y d):∀ f∈l,JH f x y d :=
 edges_span gd (meetI_nv gd hne) (meetI_ex gd hne) hd (λ e he h=>hp e (mem_meetI gd hne he h))
theorem meetI_sorted (gd:ZQ l):K9 (X0 l):=by
 unfold X0;split
 ·exact List.Pairwise.nil
 ·exact List.Pairwise.filter _ gd.sorted
theorem edge_corners (gd:ZQ l) (hn:¬ GVoid l) {h:Half} (hh:h∈l) (e:Zz XC Za l h) :
 ∃ g0∈l,∃ k0∈l,Zz XC Za l g0/\Zz XC Za l k0/\0<XC g0 h/\0<XC h k0/\0<Za g0 h k0/\(∀ f∈l,0<=Za h k0 f)/\∀ f∈l,0<=Za g0 h f:=by
 have nv:=gd.nv hn;have a:=gd.around (gd.nz h hh);obtain ⟨k0,hk,k1,k2,_,k3⟩:=gnext gom nv hh e a.1;obtain ⟨g0,hg,g1,g2,g3⟩:=gprev gom nv hh e a.2;have x0:=Zx g0 h;refine ⟨g0,hg,k0,hk,g3,k3,Oz,k1,e g0 hg k0 hk Oz k1,k2,λ f hf=>?_⟩;have h1:=g2 f hf;have h2:=gom.da g0 h f;omega
theorem again_cov (gd:ZQ l) (_:∀ f∈l,Xt f=true) {h:Half} (hh:h∈ZZ++X0 l):∃ y∈l,GCov y h:=by
 rcases List.mem_append.1 hh with h1|h1
 ·simp only [ZZ,List.mem_cons,List.not_mem_nil,or_false] at h1;rcases h1 with rfl|rfl|rfl|rfl
  ·exact gd.e
  ·exact gd.n
  ·exact gd.w
  ·exact gd.s
 ·exact ⟨h,(KR gd h1).1,JN h⟩
theorem again_ok (gd:ZQ l) (ok:∀ f∈l,Xt f=true):∀ h∈X0 l,Xt h=true:=λ h hh=>ok h (KR gd hh).1
theorem Js (gd:ZQ l) (ok:∀ f∈l,Xt f=true) {h:Half} (hh:h∈X0 l):h∈Xs (X0 l):=by
 have hl:=KR gd hh;have mok:=again_ok gd ok;have nz:∀ f∈ZZ++X0 l,KH f:=λ f hf=>(KS (ZN mok f hf)).n;have c:=Zk nz;obtain ⟨x,hx,cx⟩:=c.cov h (List.mem_append_right _ hh);have hx':=c.mem x hx;obtain ⟨y,hy,cy⟩:=again_cov gd ok hx';have nx:=nz x hx';have s:=same_trans (gd.nz y hy) nx cy.1 cx.1;have e:=gd.sorted.same gd.nz hy hl.1 s;subst e;have:=half_eq (ZN mok x hx') (ok y hy) cx.1 (by have:=cx.2;have:=cy.2;omega);subst this;exact hx
theorem again_nv (gd:ZQ l) (ok:∀ f∈l,Xt f=true) (hne:X0 l≠[]):¬ GVoid (Xs (X0 l)):=by
 have mok:=again_ok gd ok;have g2:=J7 mok;have c:=Zk (hs:=ZZ++X0 l) (λ f hf=>(KS (ZN mok f hf)).n);rintro ⟨u,hu,v,hv,huv,hx,hr⟩;apply meetI_nv gd hne;obtain ⟨p,hp,cp⟩:=again_cov gd ok (c.mem u hu);obtain ⟨q,hq,cq⟩:=again_cov gd ok (c.mem v hv);obtain ⟨Z0,_,_⟩:=g2.opp hu hv huv hx;have nu:=g2.nz u hu;have nv:=g2.nz v hv;have np:=gd.nz p hp;have nq:=gd.nz q hq;have s1:=(Kq.1 cp.1).2;have s2:=(Kq.1 cq.1).2;have e1:=same_crs np nu cp.1 q;have e2:=same_crs nq nv cq.1 u;rw [Zx v u,hx,Int.neg_zero,Int.mul_zero] at e2;have su:=YW nu;have sv:=YW nv;have sp:=YW np;have sq:=YW nq;have e3:XC q u=0:=gmz e2 Oz;rw [Zx u q,e3,Int.neg_zero,Int.mul_zero] at e1;refine ⟨p,hp,q,hq,λ e=>Z0 ?_,gmz e1 Oz,λ hpos=>hr ?_⟩
 ·subst e;rw [<- s1,<- s2]
 ·have c1:=Int.mul_le_mul_of_nonneg_right cp.2 (Int.le_of_lt (Int.mul_pos sv sq));have c2:=Int.mul_le_mul_of_nonneg_right cq.2 (Int.le_of_lt (Int.mul_pos su sp));have t:=Int.mul_pos hpos (Int.mul_pos su sv);have id:(X5 p*X5 q)*(u.c*X5 v+v.c*X5 u)=(u.c*X5 p)*(X5 v*X5 q)+(v.c*X5 q)*(X5 u*X5 p):=by grind
  have id2:(p.c*X5 q+q.c*X5 p)*(X5 u*X5 v)=(p.c*X5 u)*(X5 v*X5 q)+(q.c*X5 v)*(X5 u*X5 p):=by grind
  exact gmp (a:=X5 p*X5 q) (by rw [id];omega) (Int.mul_pos sp sq)
theorem meet_again (gd:ZQ l) (ok:∀ f∈l,Xt f=true) (hne:X0 l≠[]):X0 (Xs (X0 l))=X0 l:=by
 have mok:=again_ok gd ok;have g2:=J7 mok;have ok2:=meetL_ok mok;have hn:=meetI_nv gd hne;have hn2:=again_nv gd ok hne;have c:=Zk (hs:=ZZ++X0 l) (λ f hf=>(KS (ZN mok f hf)).n);have fwd:∀ h∈X0 l,Zz XC Za (Xs (X0 l)) h:=by
  intro h hh;obtain ⟨hl,he⟩:=KR gd hh;obtain ⟨g0,hg,k0,hk,_,_,p,q,r,v1,v2⟩:=edge_corners gd hn hl he;have low:∀ f∈Xs (X0 l),∀ a b,0<XC a b->(∀ k∈l,0<=Za a b k)->0<=Za a b f:=by
   intro f hf a b hab hin;obtain ⟨y,hy,cy⟩:=again_cov gd ok (c.mem f hf);exact (det_holds hab).2 (holds_cov (gd.nz y hy) (g2.nz f hf) cy (Int.le_of_lt (KA Oz)) ((det_holds hab).1 (hin y hy)))
  exact edge_of_vertices gom p q r (λ f hf=>low f hf h k0 q v1) (λ f hf=>low f hf g0 h p v2)
 have ex2:∃ e∈Xs (X0 l),Zz XC Za (Xs (X0 l)) e:=by
  obtain ⟨e,he⟩:=List.exists_mem_of_ne_nil _ hne;exact ⟨e,Js gd ok he,fwd e he⟩
 have bwd:∀ h∈Xs (X0 l),Zz XC Za (Xs (X0 l)) h->h∈X0 l:=by
  intro h hh he;rcases List.mem_append.1 (c.mem h hh) with hfr|hfr
  ·obtain ⟨g0,hg,k0,hk,_,_,p,q,r,v1,v2⟩:=edge_corners g2 hn2 hh he;have up:∀ f∈l,∀ a b,0<XC a b->(∀ k∈Xs (X0 l),0<=Za a b k)->0<=Za a b f:=by
    intro f hf a b hab hin;exact (det_holds hab).2 (meetI_span gd hne (Int.le_of_lt (KA Oz)) (λ e he=>(det_holds hab).1 (hin e (Js gd ok he))) f hf)
   obtain ⟨y,hy,cy⟩:=again_cov gd ok (List.mem_append_left (X0 l) hfr);have hyh:y.c*X5 h=h.c*X5 y:=by
    have t:=up y hy h k0 q v1;have n1:=gd.nz y hy;have n2:=g2.nz h hh;obtain ⟨e1,e2⟩:=J2 n1 n2 cy.1;have id:X5 h*Za h k0 y=X5 y*Za h k0 h+XC h k0*(y.c*X5 h-h.c*X5 y):=by
     simp only [Za,XC];grind
    rw [gom.d0 h k0,Int.mul_zero,Int.zero_add] at id;have t2:=Int.mul_nonneg (Int.le_of_lt (YW n2)) t;rw [id] at t2;have:=gmn t2 q;have:=cy.2;omega
   have:=half_eq (ok y hy) (ok2 h hh) cy.1 hyh;subst this;exact mem_meetI gd hne hy (edge_of_vertices gom p q r (λ f hf=>up f hf y k0 q v1) (λ f hf=>up f hf g0 y p v2))
  ·exact hfr
 refine gsorted_ext (meetI_sorted g2) (meetI_sorted gd) (λ x=>⟨λ hx=>?_,λ hx=>?_⟩)
 ·obtain ⟨h1,h2⟩:=KR g2 hx;exact bwd x h1 h2
 ·have hv2:¬ voidB (Xs (X0 l))=true:=λ h=>hn2 ((voidB_iff g2).1 h);rw [meetI_nvoid hv2];exact List.mem_filter.2 ⟨Js gd ok hx,(edge_iff g2 (g2.nz x (Js gd ok hx))).2 (fwd x hx)⟩
end
theorem regionOk_meet {hs:List Half} (hok:∀ h∈hs,Xt h=true) (hl:(X0 (Xs hs)).length<=40):Xb (X0 (Xs hs))=true:=by
 have gd:=J7 hok;have ok:=meetL_ok hok;by_cases hne:X0 (Xs hs)=[]
 ·rw [hne];rfl
 ·have ha:=meet_again gd ok hne;have hall:(X0 (Xs hs)).all Xt=true:=by
   rw [List.all_eq_true];exact again_ok gd ok
  have hr:JU (X0 (Xs hs))=true:=by
   unfold JU YA;rw [ha,hall,decide_eq_true hl];rfl
  unfold Xb rfR;rw [if_pos hr,hr,ha];simp [eqB]
theorem up_bef {u v:Half} (uu:Z0 u=true) (uv:Z0 v=true):ZU u v=true ↔ 0<XC u v:=by
 unfold ZU;rw [uu,uv];simp
theorem up_tr {u v w:Half} (nu:KH u) (nv:KH v) (nw:KH w) (uu:Z0 u=true) (uv:Z0 v=true) (uw:Z0 w=true) (h1:0<XC u v) (h2:0<XC v w):0<XC u w :=
 (up_bef uu uw).1 (bef_trans nu nv nw ((up_bef uu uv).2 h1) ((up_bef uv uw).2 h2))
theorem neg_up {h:Half} (n:KH h) (e:Z0 h=false):Z0 (hneg h)=true:=by rw [neg_upper n,e];rfl
theorem JG {u v:Half} (h:ZU u v=true):(Z0 u=Z0 v/\0<XC u v)∨(Z0 u=true/\Z0 v=false):=by
 unfold ZU at h;by_cases e:Z0 u=Z0 v
 ·rw [if_pos e] at h;exact .inl ⟨e,by simpa using h⟩
 ·rw [if_neg e] at h;refine .inr ⟨h, ?_⟩;rw [h] at e;cases hv:Z0 v
  ·rfl
  ·rw [hv] at e;exact absurd rfl e
theorem bef_mid {h f k:Half} (nh:KH h) (nf:KH f) (nk:KH k) (h1:ZU h f=true) (h2:ZU f k=true) (x:0<XC h k):0<XC h f/\0<XC f k:=by
 have a1:=Zx k h;rcases JG h1 with ⟨e1,c1⟩|⟨e1,e2⟩
 ·rcases JG h2 with ⟨e3,c2⟩|⟨e3,e4⟩
  ·exact ⟨c1,c2⟩
  ·refine ⟨c1, ?_⟩;have:=up_tr (neg_nz nk) nh nf (neg_up nk e4) (e1.trans e3) e3 (by rw [crs_neg];omega) c1;rw [crs_neg] at this;have:=Zx f k;omega
 ·rcases JG h2 with ⟨e3,c2⟩|⟨e3,e4⟩
  ·refine ⟨?_,c2⟩;have:=up_tr (neg_nz nf) (neg_nz nk) nh (neg_up nf e2) (neg_up nk (e3 ▸ e2)) e1 (by rw [crs_neg,crs_neg2];omega) (by rw [crs_neg];omega);rw [crs_neg] at this;have:=Zx h f;omega
  ·rw [e2] at e3;cases e3
theorem bef_wrap1 {k h f:Half} (nk:KH k) (nh:KH h) (nf:KH f) (h1:ZU k h=true) (h2:ZU h f=true) (x:0<XC h k):0<XC h f/\0<XC f k:=by
 have a1:=Zx k h;rcases JG h1 with ⟨e1,c1⟩|⟨e1,e2⟩
 ·omega
 ·rcases JG h2 with ⟨e3,c2⟩|⟨e3,e4⟩
  ·refine ⟨c2, ?_⟩;have:=up_tr nk (neg_nz nh) (neg_nz nf) e1 (neg_up nh e2) (neg_up nf (e3 ▸ e2)) (by rw [crs_neg2];omega) (by rw [crs_neg,crs_neg2];omega);rw [crs_neg2] at this;have:=Zx f k;omega
  ·rw [e2] at e3;cases e3
theorem bef_wrap2 {f k h:Half} (nf:KH f) (nk:KH k) (nh:KH h) (h1:ZU f k=true) (h2:ZU k h=true) (x:0<XC h k):0<XC h f/\0<XC f k:=by
 have a1:=Zx k h;rcases JG h2 with ⟨e1,c1⟩|⟨e1,e2⟩
 ·omega
 ·rcases JG h1 with ⟨e3,c2⟩|⟨e3,e4⟩
  ·refine ⟨?_,c2⟩;have:=up_tr nf nk (neg_nz nh) (e3.trans e1) e1 (neg_up nh e2) c2 (by rw [crs_neg2];omega);rw [crs_neg2] at this;have:=Zx h f;omega
  ·rw [e1] at e4;cases e4
def nxt (p:List Half) (i:Nat):Half:=p.getD ((i+1) % p.length) Xa
theorem nxt_mem {p:List Half} {i:Nat} (h:i<p.length):nxt p i∈p:=Y2 (Nat.mod_lt _ Oz)
theorem nxt_edge {l:List Half} (gd:ZQ l) (hne:X0 l≠[]) {i:Nat} (hi:i<(X0 l).length) :
 0<XC ((X0 l).getD i Xa) (nxt (X0 l) i)/\∀ f∈l,0<=Za ((X0 l).getD i Xa) (nxt (X0 l) i) f:=by
 have hn:=meetI_nv gd hne;have hs:=meetI_sorted gd;have hp:=Y2 hi;obtain ⟨hl,he⟩:=KR gd hp;obtain ⟨_,_,k0,hk,_,ek,_,q,_,v1,_⟩:=edge_corners gd hn hl he;have hk':=mem_meetI gd hne hk ek;have hm:(i+1) % (X0 l).length<(X0 l).length:=Nat.mod_lt _ Oz;have hmp:=Y2 hm;obtain ⟨fl,fe⟩:=KR gd hmp;obtain ⟨j,hj,ej⟩:=Jq hk';have pw:∀ a b,a<b->b<(X0 l).length->ZU ((X0 l).getD a Xa) ((X0 l).getD b Xa)=true:=by
  intro a b hab hb;have:=List.pairwise_iff_getElem.1 hs a b Oz hb hab;rw [List.getD_eq_getElem?_getD,List.getD_eq_getElem?_getD,List.getElem?_eq_getElem hb,List.getElem?_eq_getElem (by omega:a<(X0 l).length)];exact this
 unfold nxt;by_cases hmj:(i+1) % (X0 l).length=j
 ·rw [hmj,ej];exact ⟨q,v1⟩
 ·exfalso;have hji:j≠i:=by
   rintro rfl;rw [ej,gom.x0] at q;omega
  have nh:=gd.nz _ hl;have nk:=gd.nz _ hk;have nf:=gd.nz _ fl;suffices 0<XC ((X0 l).getD i Xa) ((X0 l).getD ((i+1) % (X0 l).length) Xa)/\0<XC ((X0 l).getD ((i+1) % (X0 l).length) Xa) k0 from
   none_between gom hl hk fl v1 this.1 this.2 fe
  rw [<- ej] at q nk ⊢;by_cases h1:i+1<(X0 l).length
  ·rw [Nat.mod_eq_of_lt h1] at hmj nf ⊢;rcases Nat.lt_or_ge j i with h2|h2
   ·exact bef_wrap1 nk nh nf (pw j i h2 hi) (pw i (i+1) Oz h1) q
   ·exact bef_mid nh nf nk (pw i (i+1) Oz h1) (pw (i+1) j Oz hj) q
  ·have h2:i+1=(X0 l).length:=Oz
   rw [h2,Nat.mod_self] at hmj nf ⊢;exact bef_wrap2 nf nk nh (pw 0 j Oz hj) (pw j i Oz hi) q
theorem reg_iff {p:List Half} (h:Xb p=true):p=[]∨(p.length<=40/\(∀ h∈p,Xt h=true)/\X0 (Xs p)=p):=by
 unfold Xb at h;rw [Bool.or_eq_true] at h;rcases h with h|h
 ·exact .inl (List.length_eq_zero_iff.1 (by simpa using h))
 ·rw [Bool.and_eq_true] at h;obtain ⟨h1,h2⟩:=h;unfold rfR at h2;rw [if_pos h1] at h2;unfold JU at h1;simp only [Bool.and_eq_true,decide_eq_true_eq,List.all_eq_true] at h1;exact .inr ⟨h1.1.1,h1.1.2,by simpa [eqB] using (Eq.symm (by simpa [eqB] using h2:p=_))⟩
theorem Jb {p:List Half} (h:Xb p=true):∀ h∈p,Xt h=true:=by
 rcases reg_iff h with rfl|h
 ·intro x hx;cases hx
 ·exact h.2.1
theorem Zt {p:List Half} (h:Xb p=true):p.length<=40:=by
 rcases reg_iff h with rfl|h
 ·simp
 ·exact h.1
def crossS (h k:Half):X9:=(Zd (JR h k) (JQ h k) (Z7 h k)).getD spot0
def XN (p:List Half):List X9:=(List.range p.length).map λ i=>crossS (p.getD i Xa) (nxt p i)
theorem Zo (p:List Half):(XN p).length=p.length:=by simp [XN]
theorem corners_at (p:List Half) (i:Nat) (h:i<p.length):(XN p)[i]'(by rw [Zo];exact h)=crossS (p.getD i Xa) (nxt p i):=by simp [XN]
structure Cnr (p:List Half) (h k:Half) (s:X9):Prop where
 ok:X7 s=true
 ins:∀ f∈p,JH f s.x s.y s.d
 on1:h.a*s.x+h.b*s.y=h.c*s.d
 on2:k.a*s.x+k.b*s.y=k.c*s.d
 turn:0<XC h k
 sp:Zd (JR h k) (JQ h k) (Z7 h k)=some s
theorem reg_corner {p:List Half} (hr:Xb p=true) {i:Nat} (hi:i<p.length):Cnr p (p.getD i Xa) (nxt p i) (crossS (p.getD i Xa) (nxt p i)):=by
 rcases reg_iff hr with rfl|⟨hl,hok,hm⟩
 ·cases hi
 ·have gd:=J7 hok;have ok2:=meetL_ok hok;have hne:X0 (Xs p)≠[]:=by rw [hm];intro e;rw [e] at hi;cases hi
  have hne':=nxt_edge gd hne (by rw [hm];exact hi);rw [hm] at hne';obtain ⟨hx,hin⟩:=hne';have h1:=Y2 hi;have h2:=nxt_mem hi;generalize p.getD i Xa=h at *;generalize nxt p i=k at *;have hk1:=hok h h1;have hk2:=hok k h2;have sub:∀ f∈p,f∈Xs p:=λ f hf=>(KR gd (by rw [hm];exact hf)).1;have gi:gIn (Xs p) h k=true:=(gIn_iff gd).2 ⟨Oz,λ f hf=>Int.mul_nonneg Oz (hin f hf)⟩;obtain ⟨e1,hd⟩:=gIn_spot hk1 hk2 gi;have gi2:=gi;unfold gIn inPt at gi2;simp only [Bool.and_eq_true,decide_eq_true_eq] at gi2;obtain ⟨⟨⟨⟨⟨h0,q1⟩,q2⟩,q3⟩,q4⟩,_⟩:=gi2;obtain ⟨_,ok⟩:=spotOf_in (x:=JR h k) (y:=JQ h k) (d:=Z7 h k) ⟨Oz,crD_le hk1 hk2⟩ ⟨q2,q1⟩ ⟨q4,q3⟩;have rs:=red_scale (x:=JR h k) (y:=JQ h k) (d:=Z7 h k) Oz;have es:crossS h k=Kf (JR h k) (JQ h k) (Z7 h k):=by unfold crossS;rw [e1];rfl
  rw [es];have on1:=cr_on h k;have on2:k.a*JR h k+k.b*JQ h k=k.c*Z7 h k:=by
   have:=cr_in h k k;rw [if_neg Oz,gom.d1] at this;omega
  have hall:∀ f∈p,JH f (JR h k) (JQ h k) (Z7 h k):=λ f hf=>(det_holds hx).1 (hin f (sub f hf));generalize Kf (JR h k) (JQ h k) (Z7 h k)=s at *;generalize hX:JR h k=X at *;generalize hY:JQ h k=Y at *;generalize hD:Z7 h k=D at *;obtain ⟨pg,ex,ey,ed⟩:=rs;generalize ((Xm [X,Y,D]:Nat):Int)=g at *;refine ⟨ok,λ f hf=>?_, ?_, ?_,hx,by rw [hX,hY,hD];exact e1⟩
  ·have:=hall f hf;unfold JH at *;have id:g*(f.c*s.d-(f.a*s.x+f.b*s.y))=f.c*D-(f.a*X+f.b*Y):=by rw [ex,ey,ed];grind
   have:=gmn (a:=g) (b:=f.c*s.d-(f.a*s.x+f.b*s.y)) Oz pg;omega
  ·have id:g*(h.a*s.x+h.b*s.y-h.c*s.d)=h.a*X+h.b*Y-h.c*D:=by rw [ex,ey,ed];grind
   have:=gmz (a:=g) (b:=h.a*s.x+h.b*s.y-h.c*s.d) Oz Oz;omega
  ·have id:g*(k.a*s.x+k.b*s.y-k.c*s.d)=k.a*X+k.b*Y-k.c*D:=by rw [ex,ey,ed];grind
   have:=gmz (a:=g) (b:=k.a*s.x+k.b*s.y-k.c*s.d) Oz Oz;omega
theorem corners_ok {p:List Half} (hr:Xb p=true):∀ s∈XN p,X7 s=true:=by
 intro s hs;obtain ⟨i,hi,rfl⟩:=List.mem_map.1 hs;exact (reg_corner hr (List.mem_range.1 hi)).ok
end Go.Proofs.YtbekjpkcicjcgaaGreat
