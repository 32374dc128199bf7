/-
 The edges of a region span it: a half plane of the list is implied by two edges; a region's edges make the region again.
 Conditions: none.
-/
import Derived.Test.YtabfdkpdppemaaaGreatGrL
namespace Go.Proofs.YtabfdkpdppemaaaGreat
open Go.RowKit
theorem glt_or (a b:Int):a<b∨a ≥ b:=by omega
section
variable {α:Type} {X:α->α->Int} {D:α->α->α->Int} {L:List α}
theorem gfan (o:GOM X D) (nv:GNV X D L) (ar:∀ h∈L,(∃ g∈L,0<X h g)/\(∃ g∈L,X h g<0)) (opp:∀ u∈L,∀ v∈L,u≠v->X u v=0->∀ k,0<X u k->X v k<0)
 (ex:∃ e∈L,Zb X D L e) {f:α} (hf:f∈L) (hn:¬ Zb X D L f) :
 ∃ h∈L,∃ g∈L,Zb X D L h/\Zb X D L g/\0<X h g/\(∀ k∈L,0<=D h g k)/\0<=X h f/\0<=X f g:=by
 have step1:∃ e∈L,Zb X D L e/\0<X e f:=by
  apply Classical.byContradiction;intro hno;have hle:∀ e∈L,Zb X D L e->X e f<=0:=λ e he hg=>by
   rcases glt_or 0 (X e f) with h|h
   ·exact absurd ⟨e,he,hg,h⟩ hno
   ·exact h
  by_cases hz:∃ e∈L,Zb X D L e/\X e f=0
  ·obtain ⟨e,he,hg,h0⟩:=hz;obtain ⟨g,hgm,h1,_,_,h2⟩:=gnext o nv he hg (ar e he).1;have h3:=opp e he f hf (λ q=>hn (q ▸ hg)) h0 g h1;have h4:=hle g hgm h2;have:=o.xa g f;omega
  ·have hlt:∀ e∈L,Zb X D L e->X e f<0:=λ e he hg=>by
    have:=hle e he hg;rcases Classical.em (X e f=0) with h|h
    ·exact absurd ⟨e,he,hg,h⟩ hz
    ·omega
   obtain ⟨e0,he0,hg0⟩:=ex;obtain ⟨m,hm,⟨hmg,hmf⟩,hmax⟩:=JU (P:=λ g=>Zb X D L g/\X g f<0) (le:=λ a b=>0<=X b a)
    (by intro a b _ _;have:=o.xa a b;omega)
    (by
     rintro a b c ⟨_,ha⟩ ⟨_,hb⟩ ⟨_,hc⟩ h1 h2;have id:=o.p2 c b a f;have t1:=Int.mul_nonneg h2 (show 0<=-X a f by omega);have t2:=Int.mul_nonneg (show 0<=-X c f by omega) h1;rcases glt_or (X c a) 0 with h|h
     ·have t3:=Int.mul_pos (show 0 < -X c a by omega) (show 0 < -X b f by omega);rw [Int.neg_mul_neg] at t3;rw [Int.mul_neg] at t1;rw [Int.neg_mul] at t2;omega
     ·exact h) L ⟨e0,he0,hg0,hlt e0 he0 hg0⟩
   obtain ⟨g,hgm,h1,_,_,h2⟩:=gnext o nv hm hmg (ar m hm).1;have:=hmax g hgm ⟨h2,hlt g hgm h2⟩;have:=o.xa m g;omega
 obtain ⟨e0,he0,hg0,hp0⟩:=step1;obtain ⟨h,hm,⟨hmg,hmf⟩,hmax⟩:=JU (P:=λ g=>Zb X D L g/\0<X g f) (le:=λ a b=>0<=X b a)
  (by intro a b _ _;have:=o.xa a b;omega)
  (by
   rintro a b c ⟨_,ha⟩ ⟨_,hb⟩ ⟨_,hc⟩ h1 h2;have id:=o.p2 c b a f;have t1:=Int.mul_nonneg h2 (show 0<=X a f by omega);have t2:=Int.mul_nonneg (show 0<=X c f by omega) h1;exact gmn (a:=X b f) (by rw [Int.mul_comm];omega) hb) L ⟨e0,he0,hg0,hp0⟩
 obtain ⟨g,hgm,h1,hin,_,h2⟩:=gnext o nv hm hmg (ar h hm).1;refine ⟨h,hm,g,hgm,hmg,h2,h1,hin,by omega, ?_⟩;rcases glt_or 0 (X g f) with hq|hq
 ·have:=hmax g hgm ⟨h2,hq⟩;have:=o.xa h g;omega
 ·have:=o.xa f g;omega
theorem edge_of_vertices (o:GOM X D) {h g0 k0:α} {M:List α} (p:0<X g0 h) (q:0<X h k0) (r:0<D g0 h k0) (v1:∀ f∈M,0<=D h k0 f) (v2:∀ f∈M,0<=D g0 h f):Zb X D M h:=by
 intro g hg k hk xg xk;have a1:=v1 g hg;have a2:=v1 k hk;have b1:=v2 g hg;have b2:=v2 k hk;have c1:=o.dc g0 h k0;have c2:=o.dc g0 h g;have c3:=o.dc g0 h k;have x1:=o.xa g0 h;have x2:=o.xa g h;have i1:=o.p3 h k0 k g0;have e1:=o.d23 h k0 g0;have t1:=Int.mul_nonneg a2 (show 0<=-X h g0 by omega);have t2:=Int.mul_pos (show 0<D h k0 g0 by omega) xk;have s1:0<D h k g0:=by
  have t3:0<X h k0*D h k g0:=by rw [Int.mul_neg] at t1;omega
  exact gmp t3 q
 have i2:=o.p3 h k g g0;have e2:=o.d23 h k g0;have t4:=Int.mul_nonneg (show 0<=D h g g0 by omega) (Int.le_of_lt xk);have t5:=Int.mul_pos s1 (show 0 < -X h g by omega);have s2:0<D h k g:=by
  have t6:0<(-X h g0)*D h k g:=by
   rw [Int.mul_neg] at t5;rw [Int.neg_mul,Int.mul_comm (X h g0)];rw [Int.mul_comm (D h g g0)] at t4;omega
  exact gmp t6 (by omega)
 have:=o.dc g h k;omega
end
theorem opp_of {l:List Half} (g:ZX l):∀ u∈l,∀ v∈l,u≠v->Xz u v=0->∀ k,0<Xz u k->Xz v k<0:=by
 intro u hu v hv hne hx k hk;obtain ⟨_,h1,h2⟩:=g.opp hu hv hne hx;have:=opp_crs h1 h2 k;have c1:=ZM k u;have c2:=ZM k v;have su:=Zf (g.nz u hu);have sv:=Zf (g.nz v hv);rcases glt_or (Xz v k) 0 with h|h
 ·exact h
 ·exfalso;have t1:=Int.mul_pos sv hk;have t2:=Int.mul_nonneg (Int.le_of_lt su) h;rw [c1,c2,Int.mul_neg,Int.mul_neg] at this;omega
def YA (f:Half) (x y d:Int):Prop:=f.a*x+f.b*y<=f.c*d
theorem edges_span {l:List Half} (g:ZX l) (hn:¬ GVoid l) (ex:∃ e∈l,Zb Xz YN l e) {x y d:Int} (hd:0<=d) (hp:∀ e∈l,Zb Xz YN l e->YA e x y d):∀ f∈l,YA f x y d:=by
 intro f hf;by_cases he:Zb Xz YN l f
 ·exact hp f hf he
 ·obtain ⟨h,hh,k,hk,eh,ek,hx,hin,h1,h2⟩:=gfan gom (g.nv hn) (λ h hh=>g.around (g.nz h hh)) (opp_of g) ex hf he;have q1:=hp h hh eh;have q2:=hp k hk ek;have q3:=hin f hf;unfold YA at *;have id:Xz h k*(f.c*d-(f.a*x+f.b*y))=Xz f k*(h.c*d-(h.a*x+h.b*y))+Xz h f*(k.c*d-(k.a*x+k.b*y))+d*YN h k f:=by
   simp only [Xz,YN];grind
  have t1:=Int.mul_nonneg h2 (show 0<=h.c*d-(h.a*x+h.b*y) by omega);have t2:=Int.mul_nonneg h1 (show 0<=k.c*d-(k.a*x+k.b*y) by omega);have t3:=Int.mul_nonneg hd q3;have:=gmn (a:=Xz h k) (by rw [id];omega) hx;omega
theorem det_holds {h k f:Half} (hx:0<Xz h k):0<=YN h k f ↔ YA f (crX h k) (crY h k) (KO h k):=by
 have:=cr_in h k f;rw [if_neg (by omega)] at this;unfold YA;omega
theorem holds_cov {y f:Half} (ny:Jv y) (nf:Jv f) (c:GCov y f) {a b d:Int} (hd:0<=d) (hp:YA y a b d):YA f a b d:=by
 obtain ⟨s,hc⟩:=c;obtain ⟨e1,e2⟩:=same_scale ny nf s;have sy:=Zf ny;have sf:=Zf nf;unfold YA at *;have t1:=Int.mul_le_mul_of_nonneg_right hp (Int.le_of_lt sf);have t2:=Int.mul_le_mul_of_nonneg_right hc hd;have id:Ye y*(f.c*d-(f.a*a+f.b*b))=(f.c*Ye y*d-y.c*Ye f*d)+(y.c*d*Ye f-(y.a*a+y.b*b)*Ye f):=by
  have:f.a*Ye y=y.a*Ye f:=e1.symm;have:f.b*Ye y=y.b*Ye f:=e2.symm;grind
 have:=gmn (a:=Ye y) (b:=f.c*d-(f.a*a+f.b*b)) (by rw [id];omega) sy;omega
theorem meetI_nvoid {m:List Half} (h:¬ voidB m=true):XR m=m.filter (Jm m):=by unfold XR;rw [if_neg h]
section
variable {l:List Half}
theorem Kk (gd:ZX l) {h:Half}:h∈XR l->h∈l/\Zb Xz YN l h:=by
 intro hh;unfold XR at hh;split at hh
 ·cases hh
 ·obtain ⟨h1,h2⟩:=List.mem_filter.1 hh;exact ⟨h1,(edge_iff gd (gd.nz h h1)).1 h2⟩
theorem meetI_nv (gd:ZX l) (hne:XR l≠[]):¬ GVoid l:=by
 intro hv;apply hne;unfold XR;rw [if_pos ((voidB_iff gd).2 hv)]
theorem mem_meetI (gd:ZX l) (hne:XR l≠[]) {h:Half} (h1:h∈l) (h2:Zb Xz YN l h):h∈XR l:=by
 have hv:=meetI_nv gd hne;unfold XR;rw [if_neg (λ h=>hv ((voidB_iff gd).1 h))];exact List.mem_filter.2 ⟨h1,(edge_iff gd (gd.nz h h1)).2 h2⟩
theorem meetI_ex (gd:ZX l) (hne:XR l≠[]):∃ e∈l,Zb Xz YN l e:=by
 obtain ⟨e,he⟩:=List.exists_mem_of_ne_nil _ hne;exact ⟨e,Kk gd he⟩
theorem meetI_span (gd:ZX l) (hne:XR l≠[]) {x y d:Int} (hd:0<=d) (hp:∀ e∈XR l,YA e x y d):∀ f∈l,YA f x y d :=
 edges_span gd (meetI_nv gd hne) (meetI_ex gd hne) hd (λ e he h=>hp e (mem_meetI gd hne he h))
theorem meetI_sorted (gd:ZX l):GSorted (XR l):=by
 unfold XR;split
 ·exact List.Pairwise.nil
 ·exact List.Pairwise.filter _ gd.sorted
theorem edge_corners (gd:ZX l) (hn:¬ GVoid l) {h:Half} (hh:h∈l) (e:Zb Xz YN l h) :
 ∃ g0∈l,∃ k0∈l,Zb Xz YN l g0/\Zb Xz YN l k0/\0<Xz g0 h/\0<Xz h k0/\0<YN g0 h k0/\(∀ f∈l,0<=YN h k0 f)/\∀ f∈l,0<=YN g0 h f:=by
 have nv:=gd.nv hn;have a:=gd.around (gd.nz h hh);obtain ⟨k0,hk,k1,k2,_,k3⟩:=gnext gom nv hh e a.1;obtain ⟨g0,hg,g1,g2,g3⟩:=gprev gom nv hh e a.2;have x0:=ZM g0 h;refine ⟨g0,hg,k0,hk,g3,k3,by omega,k1,e g0 hg k0 hk (by omega) k1,k2,λ f hf=>?_⟩;have h1:=g2 f hf;have h2:=gom.da g0 h f;omega
theorem again_cov (gd:ZX l) (_:∀ f∈l,Xy f=true) {h:Half} (hh:h∈YT++XR l):∃ y∈l,GCov y h:=by
 rcases List.mem_append.1 hh with h1|h1
 ·simp only [YT,List.mem_cons,List.not_mem_nil,or_false] at h1;rcases h1 with rfl|rfl|rfl|rfl
  ·exact gd.e
  ·exact gd.n
  ·exact gd.w
  ·exact gd.s
 ·exact ⟨h,(Kk gd h1).1,cov_refl h⟩
theorem again_ok (gd:ZX l) (ok:∀ f∈l,Xy f=true):∀ h∈XR l,Xy h=true:=λ h hh=>ok h (Kk gd hh).1
theorem again_edge_mem (gd:ZX l) (ok:∀ f∈l,Xy f=true) {h:Half} (hh:h∈XR l):h∈Xq (XR l):=by
 have hl:=Kk gd hh;have mok:=again_ok gd ok;have nz:∀ f∈YT++XR l,Jv f:=λ f hf=>(JR (ZV mok f hf)).n;have c:=Zu nz;obtain ⟨x,hx,cx⟩:=c.cov h (List.mem_append_right _ hh);have hx':=c.mem x hx;obtain ⟨y,hy,cy⟩:=again_cov gd ok hx';have nx:=nz x hx';have s:=same_trans (gd.nz y hy) nx cy.1 cx.1;have e:=gd.sorted.same gd.nz hy hl.1 s;subst e;have:=half_eq (ZV mok x hx') (ok y hy) cx.1 (by have:=cx.2;have:=cy.2;omega);subst this;exact hx
theorem again_nv (gd:ZX l) (ok:∀ f∈l,Xy f=true) (hne:XR l≠[]):¬ GVoid (Xq (XR l)):=by
 have mok:=again_ok gd ok;have g2:=Z5 mok;have c:=Zu (hs:=YT++XR l) (λ f hf=>(JR (ZV mok f hf)).n);rintro ⟨u,hu,v,hv,huv,hx,hr⟩;apply meetI_nv gd hne;obtain ⟨p,hp,cp⟩:=again_cov gd ok (c.mem u hu);obtain ⟨q,hq,cq⟩:=again_cov gd ok (c.mem v hv);obtain ⟨KE,_,_⟩:=g2.opp hu hv huv hx;have nu:=g2.nz u hu;have nv:=g2.nz v hv;have np:=gd.nz p hp;have nq:=gd.nz q hq;have s1:=(Jj.1 cp.1).2;have s2:=(Jj.1 cq.1).2;have e1:=same_crs np nu cp.1 q;have e2:=same_crs nq nv cq.1 u;rw [ZM v u,hx,Int.neg_zero,Int.mul_zero] at e2;have su:=Zf nu;have sv:=Zf nv;have sp:=Zf np;have sq:=Zf nq;have e3:Xz q u=0:=gmz e2 (by omega);rw [ZM u q,e3,Int.neg_zero,Int.mul_zero] at e1;refine ⟨p,hp,q,hq,λ e=>KE ?_,gmz e1 (by omega),λ hpos=>hr ?_⟩
 ·subst e;rw [<- s1,<- s2]
 ·have c1:=Int.mul_le_mul_of_nonneg_right cp.2 (Int.le_of_lt (Int.mul_pos sv sq));have c2:=Int.mul_le_mul_of_nonneg_right cq.2 (Int.le_of_lt (Int.mul_pos su sp));have t:=Int.mul_pos hpos (Int.mul_pos su sv);have id:(Ye p*Ye q)*(u.c*Ye v+v.c*Ye u)=(u.c*Ye p)*(Ye v*Ye q)+(v.c*Ye q)*(Ye u*Ye p):=by grind
  have id2:(p.c*Ye q+q.c*Ye p)*(Ye u*Ye v)=(p.c*Ye u)*(Ye v*Ye q)+(q.c*Ye v)*(Ye u*Ye p):=by grind
  exact gmp (a:=Ye p*Ye q) (by rw [id];omega) (Int.mul_pos sp sq)
theorem meet_again (gd:ZX l) (ok:∀ f∈l,Xy f=true) (hne:XR l≠[]):XR (Xq (XR l))=XR l:=by
 have mok:=again_ok gd ok;have g2:=Z5 mok;have ok2:=meetL_ok mok;have hn:=meetI_nv gd hne;have hn2:=again_nv gd ok hne;have c:=Zu (hs:=YT++XR l) (λ f hf=>(JR (ZV mok f hf)).n);have fwd:∀ h∈XR l,Zb Xz YN (Xq (XR l)) h:=by
  intro h hh;obtain ⟨hl,he⟩:=Kk gd hh;obtain ⟨g0,hg,k0,hk,_,_,p,q,r,v1,v2⟩:=edge_corners gd hn hl he;have low:∀ f∈Xq (XR l),∀ a b,0<Xz a b->(∀ k∈l,0<=YN a b k)->0<=YN a b f:=by
   intro f hf a b hab hin;obtain ⟨y,hy,cy⟩:=again_cov gd ok (c.mem f hf);exact (det_holds hab).2 (holds_cov (gd.nz y hy) (g2.nz f hf) cy (Int.le_of_lt (Kw (by omega))) ((det_holds hab).1 (hin y hy)))
  exact edge_of_vertices gom p q r (λ f hf=>low f hf h k0 q v1) (λ f hf=>low f hf g0 h p v2)
 have ex2:∃ e∈Xq (XR l),Zb Xz YN (Xq (XR l)) e:=by
  obtain ⟨e,he⟩:=List.exists_mem_of_ne_nil _ hne;exact ⟨e,again_edge_mem gd ok he,fwd e he⟩
 have bwd:∀ h∈Xq (XR l),Zb Xz YN (Xq (XR l)) h->h∈XR l:=by
  intro h hh he;rcases List.mem_append.1 (c.mem h hh) with hfr|hfr
  ·obtain ⟨g0,hg,k0,hk,_,_,p,q,r,v1,v2⟩:=edge_corners g2 hn2 hh he;have up:∀ f∈l,∀ a b,0<Xz a b->(∀ k∈Xq (XR l),0<=YN a b k)->0<=YN a b f:=by
    intro f hf a b hab hin;exact (det_holds hab).2 (meetI_span gd hne (Int.le_of_lt (Kw (by omega))) (λ e he=>(det_holds hab).1 (hin e (again_edge_mem gd ok he))) f hf)
   obtain ⟨y,hy,cy⟩:=again_cov gd ok (List.mem_append_left (XR l) hfr);have hyh:y.c*Ye h=h.c*Ye y:=by
    have t:=up y hy h k0 q v1;have n1:=gd.nz y hy;have n2:=g2.nz h hh;obtain ⟨e1,e2⟩:=same_scale n1 n2 cy.1;have id:Ye h*YN h k0 y=Ye y*YN h k0 h+Xz h k0*(y.c*Ye h-h.c*Ye y):=by
     simp only [YN,Xz];grind
    rw [gom.d0 h k0,Int.mul_zero,Int.zero_add] at id;have t2:=Int.mul_nonneg (Int.le_of_lt (Zf n2)) t;rw [id] at t2;have:=gmn t2 q;have:=cy.2;omega
   have:=half_eq (ok y hy) (ok2 h hh) cy.1 hyh;subst this;exact mem_meetI gd hne hy (edge_of_vertices gom p q r (λ f hf=>up f hf y k0 q v1) (λ f hf=>up f hf g0 y p v2))
  ·exact hfr
 refine gsorted_ext (meetI_sorted g2) (meetI_sorted gd) (λ x=>⟨λ hx=>?_,λ hx=>?_⟩)
 ·obtain ⟨h1,h2⟩:=Kk g2 hx;exact bwd x h1 h2
 ·have hv2:¬ voidB (Xq (XR l))=true:=λ h=>hn2 ((voidB_iff g2).1 h);rw [meetI_nvoid hv2];exact List.mem_filter.2 ⟨again_edge_mem gd ok hx,(edge_iff g2 (g2.nz x (again_edge_mem gd ok hx))).2 (fwd x hx)⟩
end
theorem regionOk_meet {hs:List Half} (hok:∀ h∈hs,Xy h=true) (hl:(XR (Xq hs)).length<=40):Xe (XR (Xq hs))=true:=by
 have gd:=Z5 hok;have ok:=meetL_ok hok;by_cases hne:XR (Xq hs)=[]
 ·rw [hne];rfl
 ·have ha:=meet_again gd ok hne;have hall:(XR (Xq hs)).all Xy=true:=by
   rw [List.all_eq_true];exact again_ok gd ok
  have hr:rfOk (XR (Xq hs))=true:=by
   unfold rfOk YK;rw [ha,hall,decide_eq_true hl];rfl
  unfold Xe rfR;rw [if_pos hr,hr,ha];simp [eqB]
theorem meet_holds {hs:List Half} (hok:∀ h∈hs,Xy h=true) (hne:XR (Xq hs)≠[]) {x y d:Int} (hd:0<=d) :
 (∀ e∈XR (Xq hs),YA e x y d) ↔ (∀ h∈YT++hs,YA h x y d):=by
 have gd:=Z5 hok;have c:=Zu (hs:=YT++hs) (λ f hf=>(JR (ZV hok f hf)).n);constructor
 ·intro hp h hh;obtain ⟨z,hz,cz⟩:=c.cov h hh;exact holds_cov (gd.nz z hz) (JR (ZV hok h hh)).n cz hd (meetI_span gd hne hd hp z hz)
 ·intro hp e he;exact hp e (c.mem e (Kk gd he).1)
theorem up_bef {u v:Half} (uu:KE u=true) (uv:KE v=true):Kq u v=true ↔ 0<Xz u v:=by
 unfold Kq;rw [uu,uv];simp
theorem up_tr {u v w:Half} (nu:Jv u) (nv:Jv v) (nw:Jv w) (uu:KE u=true) (uv:KE v=true) (uw:KE w=true) (h1:0<Xz u v) (h2:0<Xz v w):0<Xz u w :=
 (up_bef uu uw).1 (bef_trans nu nv nw ((up_bef uu uv).2 h1) ((up_bef uv uw).2 h2))
theorem neg_up {h:Half} (n:Jv h) (e:KE h=false):KE (hneg h)=true:=by rw [neg_upper n,e];rfl
theorem bef_cases {u v:Half} (h:Kq u v=true):(KE u=KE v/\0<Xz u v)∨(KE u=true/\KE v=false):=by
 unfold Kq at h;by_cases e:KE u=KE v
 ·rw [if_pos e] at h;exact .inl ⟨e,by simpa using h⟩
 ·rw [if_neg e] at h;refine .inr ⟨h, ?_⟩;rw [h] at e;cases hv:KE v
  ·rfl
  ·rw [hv] at e;exact absurd rfl e
theorem bef_mid {h f k:Half} (nh:Jv h) (nf:Jv f) (nk:Jv k) (h1:Kq h f=true) (h2:Kq f k=true) (x:0<Xz h k):0<Xz h f/\0<Xz f k:=by
 have a1:=ZM k h;rcases bef_cases h1 with ⟨e1,c1⟩|⟨e1,e2⟩
 ·rcases bef_cases h2 with ⟨e3,c2⟩|⟨e3,e4⟩
  ·exact ⟨c1,c2⟩
  ·refine ⟨c1, ?_⟩;have:=up_tr (neg_nz nk) nh nf (neg_up nk e4) (e1.trans e3) e3 (by rw [crs_neg];omega) c1;rw [crs_neg] at this;have:=ZM f k;omega
 ·rcases bef_cases h2 with ⟨e3,c2⟩|⟨e3,e4⟩
  ·refine ⟨?_,c2⟩;have:=up_tr (neg_nz nf) (neg_nz nk) nh (neg_up nf e2) (neg_up nk (e3 ▸ e2)) e1 (by rw [crs_neg,crs_neg2];omega) (by rw [crs_neg];omega);rw [crs_neg] at this;have:=ZM h f;omega
  ·rw [e2] at e3;cases e3
theorem bef_wrap1 {k h f:Half} (nk:Jv k) (nh:Jv h) (nf:Jv f) (h1:Kq k h=true) (h2:Kq h f=true) (x:0<Xz h k):0<Xz h f/\0<Xz f k:=by
 have a1:=ZM k h;rcases bef_cases h1 with ⟨e1,c1⟩|⟨e1,e2⟩
 ·omega
 ·rcases bef_cases h2 with ⟨e3,c2⟩|⟨e3,e4⟩
  ·refine ⟨c2, ?_⟩;have:=up_tr nk (neg_nz nh) (neg_nz nf) e1 (neg_up nh e2) (neg_up nf (e3 ▸ e2)) (by rw [crs_neg2];omega) (by rw [crs_neg,crs_neg2];omega);rw [crs_neg2] at this;have:=ZM f k;omega
  ·rw [e2] at e3;cases e3
theorem bef_wrap2 {f k h:Half} (nf:Jv f) (nk:Jv k) (nh:Jv h) (h1:Kq f k=true) (h2:Kq k h=true) (x:0<Xz h k):0<Xz h f/\0<Xz f k:=by
 have a1:=ZM k h;rcases bef_cases h2 with ⟨e1,c1⟩|⟨e1,e2⟩
 ·omega
 ·rcases bef_cases h1 with ⟨e3,c2⟩|⟨e3,e4⟩
  ·refine ⟨?_,c2⟩;have:=up_tr nf nk (neg_nz nh) (e3.trans e1) e1 (neg_up nh e2) c2 (by rw [crs_neg2];omega);rw [crs_neg2] at this;have:=ZM h f;omega
  ·rw [e1] at e4;cases e4
def nxt (p:List Half) (i:Nat):Half:=p.getD ((i+1) % p.length) Xd
theorem nxt_mem {p:List Half} {i:Nat} (h:i<p.length):nxt p i∈p:=ZU (Nat.mod_lt _ (by omega))
theorem nxt_edge {l:List Half} (gd:ZX l) (hne:XR l≠[]) {i:Nat} (hi:i<(XR l).length) :
 0<Xz ((XR l).getD i Xd) (nxt (XR l) i)/\∀ f∈l,0<=YN ((XR l).getD i Xd) (nxt (XR l) i) f:=by
 have hn:=meetI_nv gd hne;have hs:=meetI_sorted gd;have hp:=ZU hi;obtain ⟨hl,he⟩:=Kk gd hp;obtain ⟨_,_,k0,hk,_,ek,_,q,_,v1,_⟩:=edge_corners gd hn hl he;have hk':=mem_meetI gd hne hk ek;have hm:(i+1) % (XR l).length<(XR l).length:=Nat.mod_lt _ (by omega);have hmp:=ZU hm;obtain ⟨fl,fe⟩:=Kk gd hmp;obtain ⟨j,hj,ej⟩:=gmem_get hk';have pw:∀ a b,a<b->b<(XR l).length->Kq ((XR l).getD a Xd) ((XR l).getD b Xd)=true:=by
  intro a b hab hb;have:=List.pairwise_iff_getElem.1 hs a b (by omega) hb hab;rw [List.getD_eq_getElem?_getD,List.getD_eq_getElem?_getD,List.getElem?_eq_getElem hb,List.getElem?_eq_getElem (by omega:a<(XR l).length)];exact this
 unfold nxt;by_cases hmj:(i+1) % (XR l).length=j
 ·rw [hmj,ej];exact ⟨q,v1⟩
 ·exfalso;have hji:j≠i:=by
   rintro rfl;rw [ej,gom.x0] at q;omega
  have nh:=gd.nz _ hl;have nk:=gd.nz _ hk;have nf:=gd.nz _ fl;suffices 0<Xz ((XR l).getD i Xd) ((XR l).getD ((i+1) % (XR l).length) Xd)/\0<Xz ((XR l).getD ((i+1) % (XR l).length) Xd) k0 from
   none_between gom hl hk fl v1 this.1 this.2 fe
  rw [<- ej] at q nk ⊢;by_cases h1:i+1<(XR l).length
  ·rw [Nat.mod_eq_of_lt h1] at hmj nf ⊢;rcases Nat.lt_or_ge j i with h2|h2
   ·exact bef_wrap1 nk nh nf (pw j i h2 hi) (pw i (i+1) (by omega) h1) q
   ·exact bef_mid nh nf nk (pw i (i+1) (by omega) h1) (pw (i+1) j (by omega) hj) q
  ·have h2:i+1=(XR l).length:=by omega
   rw [h2,Nat.mod_self] at hmj nf ⊢;exact bef_wrap2 nf nk nh (pw 0 j (by omega) hj) (pw j i (by omega) hi) q
theorem reg_iff {p:List Half} (h:Xe p=true):p=[]∨(p.length<=40/\(∀ h∈p,Xy h=true)/\XR (Xq p)=p):=by
 unfold Xe at h;rw [Bool.or_eq_true] at h;rcases h with h|h
 ·exact .inl (List.length_eq_zero_iff.1 (by simpa using h))
 ·rw [Bool.and_eq_true] at h;obtain ⟨h1,h2⟩:=h;unfold rfR at h2;rw [if_pos h1] at h2;unfold rfOk at h1;simp only [Bool.and_eq_true,decide_eq_true_eq,List.all_eq_true] at h1;exact .inr ⟨h1.1.1,h1.1.2,by simpa [eqB] using (Eq.symm (by simpa [eqB] using h2:p=_))⟩
theorem Zo {p:List Half} (h:Xe p=true):∀ h∈p,Xy h=true:=by
 rcases reg_iff h with rfl|h
 ·intro x hx;cases hx
 ·exact h.2.1
theorem Yo {p:List Half} (h:Xe p=true):p.length<=40:=by
 rcases reg_iff h with rfl|h
 ·simp
 ·exact h.1
def crossS (h k:Half):XJ:=(Zn (crX h k) (crY h k) (KO h k)).getD spot0
def Xr (p:List Half):List XJ:=(List.range p.length).map λ i=>crossS (p.getD i Xd) (nxt p i)
theorem Zm (p:List Half):(Xr p).length=p.length:=by simp [Xr]
theorem corners_at (p:List Half) (i:Nat) (h:i<p.length):(Xr p)[i]'(by rw [Zm];exact h)=crossS (p.getD i Xd) (nxt p i):=by simp [Xr]
structure Cnr (p:List Half) (h k:Half) (s:XJ):Prop where
 ok:Xt s=true
 ins:∀ f∈p,YA f s.x s.y s.d
 on1:h.a*s.x+h.b*s.y=h.c*s.d
 on2:k.a*s.x+k.b*s.y=k.c*s.d
 turn:0<Xz h k
 sp:Zn (crX h k) (crY h k) (KO h k)=some s
theorem reg_corner {p:List Half} (hr:Xe p=true) {i:Nat} (hi:i<p.length):Cnr p (p.getD i Xd) (nxt p i) (crossS (p.getD i Xd) (nxt p i)):=by
 rcases reg_iff hr with rfl|⟨hl,hok,hm⟩
 ·cases hi
 ·have gd:=Z5 hok;have ok2:=meetL_ok hok;have hne:XR (Xq p)≠[]:=by rw [hm];intro e;rw [e] at hi;cases hi
  have hne':=nxt_edge gd hne (by rw [hm];exact hi);rw [hm] at hne';obtain ⟨hx,hin⟩:=hne';have h1:=ZU hi;have h2:=nxt_mem hi;generalize p.getD i Xd=h at *;generalize nxt p i=k at *;have hk1:=hok h h1;have hk2:=hok k h2;have sub:∀ f∈p,f∈Xq p:=λ f hf=>(Kk gd (by rw [hm];exact hf)).1;have gi:gIn (Xq p) h k=true:=(gIn_iff gd).2 ⟨by omega,λ f hf=>Int.mul_nonneg (by omega) (hin f hf)⟩;obtain ⟨e1,hd⟩:=gIn_spot hk1 hk2 gi;have gi2:=gi;unfold gIn inPt at gi2;simp only [Bool.and_eq_true,decide_eq_true_eq] at gi2;obtain ⟨⟨⟨⟨⟨h0,q1⟩,q2⟩,q3⟩,q4⟩,_⟩:=gi2;obtain ⟨_,ok⟩:=spotOf_in (x:=crX h k) (y:=crY h k) (d:=KO h k) ⟨by omega,crD_le hk1 hk2⟩ ⟨q2,q1⟩ ⟨q4,q3⟩;have rs:=red_scale (x:=crX h k) (y:=crY h k) (d:=KO h k) (by omega);have es:crossS h k=KR (crX h k) (crY h k) (KO h k):=by unfold crossS;rw [e1];rfl
  rw [es];have on1:=cr_on h k;have on2:k.a*crX h k+k.b*crY h k=k.c*KO h k:=by
   have:=cr_in h k k;rw [if_neg (by omega),gom.d1] at this;omega
  have hall:∀ f∈p,YA f (crX h k) (crY h k) (KO h k):=λ f hf=>(det_holds hx).1 (hin f (sub f hf));generalize KR (crX h k) (crY h k) (KO h k)=s at *;generalize hX:crX h k=X at *;generalize hY:crY h k=Y at *;generalize hD:KO h k=D at *;obtain ⟨pg,ex,ey,ed⟩:=rs;generalize ((Xu [X,Y,D]:Nat):Int)=g at *;refine ⟨ok,λ f hf=>?_, ?_, ?_,hx,by rw [hX,hY,hD];exact e1⟩
  ·have:=hall f hf;unfold YA at *;have id:g*(f.c*s.d-(f.a*s.x+f.b*s.y))=f.c*D-(f.a*X+f.b*Y):=by rw [ex,ey,ed];grind
   have:=gmn (a:=g) (b:=f.c*s.d-(f.a*s.x+f.b*s.y)) (by omega) pg;omega
  ·have id:g*(h.a*s.x+h.b*s.y-h.c*s.d)=h.a*X+h.b*Y-h.c*D:=by rw [ex,ey,ed];grind
   have:=gmz (a:=g) (b:=h.a*s.x+h.b*s.y-h.c*s.d) (by omega) (by omega);omega
  ·have id:g*(k.a*s.x+k.b*s.y-k.c*s.d)=k.a*X+k.b*Y-k.c*D:=by rw [ex,ey,ed];grind
   have:=gmz (a:=g) (b:=k.a*s.x+k.b*s.y-k.c*s.d) (by omega) (by omega);omega
theorem corners_ok {p:List Half} (hr:Xe p=true):∀ s∈Xr p,Xt s=true:=by
 intro s hs;obtain ⟨i,hi,rfl⟩:=List.mem_map.1 hs;exact (reg_corner hr (List.mem_range.1 hi)).ok
end Go.Proofs.YtabfdkpdppemaaaGreat
