/-
 The edges of a region span it: a half plane of the list is implied by two edges; a region's edges make the region again.
 Conditions: none.
-/
import Derived.Test.YtkjimfapbjdafaaGreatGrL
section
namespace Go.Proofs.YtkjimfapbjdafaaGreat
open Go.RowKit
theorem glt_or (a b:Int):a<b∨a ≥ b:=by omega
section
variable {α:Type} {X:α→α→Int} {D:α→α→α→Int} {L:List α}
/-- Each one that is no edge lies between two neighbouring edges. -/
theorem gfan (o:GOM X D) (nv:GNV X D L) (ar:∀ h∈L,(∃ g∈L,0<X h g)∧(∃ g∈L,X h g<0)) (opp:∀ u∈L,∀ v∈L,u≠v→X u v=0→∀ k,0<X u k→X v k<0)
 (ex:∃ e∈L,Y4 X D L e) {f:α} (hf:f∈L) (hn:¬ Y4 X D L f) :
 ∃ h∈L,∃ g∈L,Y4 X D L h∧Y4 X D L g∧0<X h g∧(∀ k∈L,0≤D h g k)∧0≤X h f∧0≤X f g:=by
 have step1:∃ e∈L,Y4 X D L e∧0<X e f:=by
  apply Classical.byContradiction
  intro hno
  have hle:∀ e∈L,Y4 X D L e→X e f≤0:=fun e he hg=>by
   rcases glt_or 0 (X e f) with h|h
   ·exact absurd ⟨e,he,hg,h⟩ hno
   ·exact h
  by_cases hz:∃ e∈L,Y4 X D L e∧X e f=0
  ·obtain ⟨e,he,hg,h0⟩:=hz
   obtain ⟨g,hgm,h1,_,_,h2⟩:=gnext o nv he hg (ar e he).1
   have h3:=opp e he f hf (fun q=>hn (q ▸ hg)) h0 g h1
   have h4:=hle g hgm h2
   have:=o.xa g f
   omega
  ·have hlt:∀ e∈L,Y4 X D L e→X e f<0:=fun e he hg=>by
    have:=hle e he hg
    rcases Classical.em (X e f=0) with h|h
    ·exact absurd ⟨e,he,hg,h⟩ hz
    ·omega
   obtain ⟨e0,he0,hg0⟩:=ex
   obtain ⟨m,hm,⟨hmg,hmf⟩,hmax⟩:=Jy (P:=fun g=>Y4 X D L g∧X g f<0) (le:=fun a b=>0≤X b a)
    (by intro a b _ _;have:=o.xa a b;omega)
    (by
     rintro a b c ⟨_,ha⟩ ⟨_,hb⟩ ⟨_,hc⟩ h1 h2
     have id:=o.p2 c b a f
     have t1:=Int.mul_nonneg h2 (show 0≤-X a f by omega)
     have t2:=Int.mul_nonneg (show 0≤-X c f by omega) h1
     rcases glt_or (X c a) 0 with h|h
     ·have t3:=Int.mul_pos (show 0 < -X c a by omega) (show 0 < -X b f by omega)
      rw [Int.neg_mul_neg] at t3
      rw [Int.mul_neg] at t1
      rw [Int.neg_mul] at t2
      omega
     ·exact h) L ⟨e0,he0,hg0,hlt e0 he0 hg0⟩
   obtain ⟨g,hgm,h1,_,_,h2⟩:=gnext o nv hm hmg (ar m hm).1
   have:=hmax g hgm ⟨h2,hlt g hgm h2⟩
   have:=o.xa m g
   omega
 obtain ⟨e0,he0,hg0,hp0⟩:=step1
 obtain ⟨h,hm,⟨hmg,hmf⟩,hmax⟩:=Jy (P:=fun g=>Y4 X D L g∧0<X g f) (le:=fun a b=>0≤X b a)
  (by intro a b _ _;have:=o.xa a b;omega)
  (by
   rintro a b c ⟨_,ha⟩ ⟨_,hb⟩ ⟨_,hc⟩ h1 h2
   have id:=o.p2 c b a f
   have t1:=Int.mul_nonneg h2 (show 0≤X a f by omega)
   have t2:=Int.mul_nonneg (show 0≤X c f by omega) h1
   exact gmn (a:=X b f) (by rw [Int.mul_comm];omega) hb) L ⟨e0,he0,hg0,hp0⟩
 obtain ⟨g,hgm,h1,hin,_,h2⟩:=gnext o nv hm hmg (ar h hm).1
 refine ⟨h,hm,g,hgm,hmg,h2,h1,hin,by omega, ?_⟩
 rcases glt_or 0 (X g f) with hq|hq
 ·have:=hmax g hgm ⟨h2,hq⟩
  have:=o.xa h g
  omega
 ·have:=o.xa f g
  omega
/-- One whose two Yj lie in all of a list is an edge of it. -/
theorem JG (o:GOM X D) {h g0 k0:α} {M:List α} (p:0<X g0 h) (q:0<X h k0) (r:0<D g0 h k0) (v1:∀ f∈M,0≤D h k0 f) (v2:∀ f∈M,0≤D g0 h f):Y4 X D M h:=by
 intro g hg k hk xg xk
 have a1:=v1 g hg
 have a2:=v1 k hk
 have b1:=v2 g hg
 have b2:=v2 k hk
 have c1:=o.dc g0 h k0
 have c2:=o.dc g0 h g
 have c3:=o.dc g0 h k
 have x1:=o.xa g0 h
 have x2:=o.xa g h
 -- D h k g0 > 0
 have i1:=o.p3 h k0 k g0
 have e1:=o.d23 h k0 g0
 have t1:=Int.mul_nonneg a2 (show 0≤-X h g0 by omega)
 have t2:=Int.mul_pos (show 0<D h k0 g0 by omega) xk
 have s1:0<D h k g0:=by
  have t3:0<X h k0*D h k g0:=by rw [Int.mul_neg] at t1;omega
  exact gmp t3 q
 -- D h k g > 0
 have i2:=o.p3 h k g g0
 have e2:=o.d23 h k g0
 have t4:=Int.mul_nonneg (show 0≤D h g g0 by omega) (Int.le_of_lt xk)
 have t5:=Int.mul_pos s1 (show 0 < -X h g by omega)
 have s2:0<D h k g:=by
  have t6:0<(-X h g0)*D h k g:=by
   rw [Int.mul_neg] at t5
   rw [Int.neg_mul,Int.mul_comm (X h g0)]
   rw [Int.mul_comm (D h g g0)] at t4
   omega
  exact gmp t6 (by omega)
 have:=o.dc g h k
 omega
end
theorem opp_of {l:List Half} (g:Y8 l):∀ u∈l,∀ v∈l,u≠v→Xq u v=0→∀ k,0<Xq u k→Xq v k<0:=by
 intro u hu v hv hne hx k hk
 obtain ⟨_,h1,h2⟩:=g.opp hu hv hne hx
 have:=opp_crs h1 h2 k
 have c1:=Y2 k u
 have c2:=Y2 k v
 have su:=Yw (g.nz u hu)
 have sv:=Yw (g.nz v hv)
 rcases glt_or (Xq v k) 0 with h|h
 ·exact h
 ·exfalso
  have t1:=Int.mul_pos sv hk
  have t2:=Int.mul_nonneg (Int.le_of_lt su) h
  rw [c1,c2,Int.mul_neg,Int.mul_neg] at this
  omega
/-- A point, with its divisor, lies in a half plane. -/
def KK (f:Half) (x y d:Int):Prop:=f.a*x+f.b*y≤f.c*d
/-- A list that is not void and has an edge: what holds at the edges holds at all. -/
theorem edges_span {l:List Half} (g:Y8 l) (hn:¬ GVoid l) (ex:∃ e∈l,Y4 Xq YM l e) {x y d:Int} (hd:0≤d) (hp:∀ e∈l,Y4 Xq YM l e→KK e x y d):∀ f∈l,KK f x y d:=by
 intro f hf
 by_cases he:Y4 Xq YM l f
 ·exact hp f hf he
 ·obtain ⟨h,hh,k,hk,eh,ek,hx,hin,h1,h2⟩:=gfan gom (g.nv hn) (fun h hh=>g.around (g.nz h hh)) (opp_of g) ex hf he
  have q1:=hp h hh eh
  have q2:=hp k hk ek
  have q3:=hin f hf
  unfold KK at *
  have id:Xq h k*(f.c*d-(f.a*x+f.b*y))=Xq f k*(h.c*d-(h.a*x+h.b*y))+Xq h f*(k.c*d-(k.a*x+k.b*y))+d*YM h k f:=by
   simp only [Xq,YM];grind
  have t1:=Int.mul_nonneg h2 (show 0≤h.c*d-(h.a*x+h.b*y) by omega)
  have t2:=Int.mul_nonneg h1 (show 0≤k.c*d-(k.a*x+k.b*y) by omega)
  have t3:=Int.mul_nonneg hd q3
  have:=gmn (a:=Xq h k) (by rw [id];omega) hx
  omega
/-- The crossing of two, where it turns left. -/
theorem JH {h k f:Half} (hx:0<Xq h k):0≤YM h k f ↔ KK f (KZ h k) (KY h k) (Zv h k):=by
 have:=cr_in h k f
 rw [if_neg (by omega)] at this
 unfold KK
 omega
theorem holds_cov {y f:Half} (ny:Z1 y) (nf:Z1 f) (c:GCov y f) {a b d:Int} (hd:0≤d) (hp:KK y a b d):KK f a b d:=by
 obtain ⟨s,hc⟩:=c
 obtain ⟨e1,e2⟩:=Jg ny nf s
 have sy:=Yw ny
 have sf:=Yw nf
 unfold KK at *
 have t1:=Int.mul_le_mul_of_nonneg_right hp (Int.le_of_lt sf)
 have t2:=Int.mul_le_mul_of_nonneg_right hc hd
 have id:XT y*(f.c*d-(f.a*a+f.b*b))=(f.c*XT y*d-y.c*XT f*d)+(y.c*d*XT f-(y.a*a+y.b*b)*XT f):=by
  have:f.a*XT y=y.a*XT f:=e1.symm
  have:f.b*XT y=y.b*XT f:=e2.symm
  grind
 have:=gmn (a:=XT y) (b:=f.c*d-(f.a*a+f.b*b)) (by rw [id];omega) sy
 omega
/-! ### a region's edges make it again -/
theorem meetI_nvoid {m:List Half} (h:¬ voidB m=true):XL m=m.filter (Zt m):=by unfold XL;rw [if_neg h]
section
variable {l:List Half}
theorem Kc (gd:Y8 l) {h:Half}:h∈XL l→h∈l∧Y4 Xq YM l h:=by
 intro hh
 unfold XL at hh
 split at hh
 ·cases hh
 ·obtain ⟨h1,h2⟩:=List.mem_filter.1 hh
  exact ⟨h1,(edge_iff gd (gd.nz h h1)).1 h2⟩
theorem meetI_nv (gd:Y8 l) (hne:XL l≠[]):¬ GVoid l:=by
 intro hv
 apply hne
 unfold XL
 rw [if_pos ((JA gd).2 hv)]
theorem mem_meetI (gd:Y8 l) (hne:XL l≠[]) {h:Half} (h1:h∈l) (h2:Y4 Xq YM l h):h∈XL l:=by
 have hv:=meetI_nv gd hne
 unfold XL
 rw [if_neg (fun h=>hv ((JA gd).1 h))]
 exact List.mem_filter.2 ⟨h1,(edge_iff gd (gd.nz h h1)).2 h2⟩
theorem meetI_ex (gd:Y8 l) (hne:XL l≠[]):∃ e∈l,Y4 Xq YM l e:=by
 obtain ⟨e,he⟩:=List.exists_mem_of_ne_nil _ hne
 exact ⟨e,Kc gd he⟩
theorem meetI_span (gd:Y8 l) (hne:XL l≠[]) {x y d:Int} (hd:0≤d) (hp:∀ e∈XL l,KK e x y d):∀ f∈l,KK f x y d :=
 edges_span gd (meetI_nv gd hne) (meetI_ex gd hne) hd (fun e he h=>hp e (mem_meetI gd hne he h))
theorem JM (gd:Y8 l):Kh (XL l):=by
 unfold XL
 split
 ·exact List.Pairwise.nil
 ·exact List.Pairwise.filter _ gd.sorted
/-- The two Yj of an edge. -/
theorem JQ (gd:Y8 l) (hn:¬ GVoid l) {h:Half} (hh:h∈l) (e:Y4 Xq YM l h) :
 ∃ g0∈l,∃ k0∈l,Y4 Xq YM l g0∧Y4 Xq YM l k0∧0<Xq g0 h∧0<Xq h k0∧0<YM g0 h k0∧(∀ f∈l,0≤YM h k0 f)∧∀ f∈l,0≤YM g0 h f:=by
 have nv:=gd.nv hn
 have a:=gd.around (gd.nz h hh)
 obtain ⟨k0,hk,k1,k2,_,k3⟩:=gnext gom nv hh e a.1
 obtain ⟨g0,hg,g1,g2,g3⟩:=gprev gom nv hh e a.2
 have x0:=Y2 g0 h
 refine ⟨g0,hg,k0,hk,g3,k3,by omega,k1,e g0 hg k0 hk (by omega) k1,k2,fun f hf=>?_⟩
 have h1:=g2 f hf
 have h2:=gom.da g0 h f
 omega
theorem JI (gd:Y8 l) (_:∀ f∈l,Xr f=true) {h:Half} (hh:h∈Zd++XL l):∃ y∈l,GCov y h:=by
 rcases List.mem_append.1 hh with h1|h1
 ·simp only [Zd,List.mem_cons,List.not_mem_nil,or_false] at h1
  rcases h1 with rfl|rfl|rfl|rfl
  ·exact gd.e
  ·exact gd.n
  ·exact gd.w
  ·exact gd.s
 ·exact ⟨h,(Kc gd h1).1,KS h⟩
theorem again_ok (gd:Y8 l) (ok:∀ f∈l,Xr f=true):∀ h∈XL l,Xr h=true:=fun h hh=>ok h (Kc gd hh).1
theorem Kr (gd:Y8 l) (ok:∀ f∈l,Xr f=true) {h:Half} (hh:h∈XL l):h∈XE (XL l):=by
 have hl:=Kc gd hh
 have mok:=again_ok gd ok
 have nz:∀ f∈Zd++XL l,Z1 f:=fun f hf=>(Ku (Kd mok f hf)).n
 have c:=ZE nz
 obtain ⟨x,hx,cx⟩:=c.cov h (List.mem_append_right _ hh)
 have hx':=c.mem x hx
 obtain ⟨y,hy,cy⟩:=JI gd ok hx'
 have nx:=nz x hx'
 have s:=same_trans (gd.nz y hy) nx cy.1 cx.1
 have e:=gd.sorted.same gd.nz hy hl.1 s
 subst e
 have:=half_eq (Kd mok x hx') (ok y hy) cx.1 (by have:=cx.2;have:=cy.2;omega)
 subst this
 exact hx
theorem again_nv (gd:Y8 l) (ok:∀ f∈l,Xr f=true) (hne:XL l≠[]):¬ GVoid (XE (XL l)):=by
 have mok:=again_ok gd ok
 have g2:=Ji mok
 have c:=ZE (hs:=Zd++XL l) (fun f hf=>(Ku (Kd mok f hf)).n)
 rintro ⟨u,hu,v,hv,huv,hx,hr⟩
 apply meetI_nv gd hne
 obtain ⟨p,hp,cp⟩:=JI gd ok (c.mem u hu)
 obtain ⟨q,hq,cq⟩:=JI gd ok (c.mem v hv)
 obtain ⟨Zm,_,_⟩:=g2.opp hu hv huv hx
 have nu:=g2.nz u hu
 have nv:=g2.nz v hv
 have np:=gd.nz p hp
 have nq:=gd.nz q hq
 have s1:=(ZP.1 cp.1).2
 have s2:=(ZP.1 cq.1).2
 have e1:=same_crs np nu cp.1 q
 have e2:=same_crs nq nv cq.1 u
 rw [Y2 v u,hx,Int.neg_zero,Int.mul_zero] at e2
 have su:=Yw nu
 have sv:=Yw nv
 have sp:=Yw np
 have sq:=Yw nq
 have e3:Xq q u=0:=gmz e2 (by omega)
 rw [Y2 u q,e3,Int.neg_zero,Int.mul_zero] at e1
 refine ⟨p,hp,q,hq,fun e=>Zm ?_,gmz e1 (by omega),fun hpos=>hr ?_⟩
 ·subst e;rw [← s1,← s2]
 ·have c1:=Int.mul_le_mul_of_nonneg_right cp.2 (Int.le_of_lt (Int.mul_pos sv sq))
  have c2:=Int.mul_le_mul_of_nonneg_right cq.2 (Int.le_of_lt (Int.mul_pos su sp))
  have t:=Int.mul_pos hpos (Int.mul_pos su sv)
  have id:(XT p*XT q)*(u.c*XT v+v.c*XT u)=(u.c*XT p)*(XT v*XT q)+(v.c*XT q)*(XT u*XT p):=by grind
  have id2:(p.c*XT q+q.c*XT p)*(XT u*XT v)=(p.c*XT u)*(XT v*XT q)+(q.c*XT v)*(XT u*XT p):=by grind
  exact gmp (a:=XT p*XT q) (by rw [id];omega) (Int.mul_pos sp sq)
/-- The edges, with the frame, make the same region. -/
theorem meet_again (gd:Y8 l) (ok:∀ f∈l,Xr f=true) (hne:XL l≠[]):XL (XE (XL l))=XL l:=by
 have mok:=again_ok gd ok
 have g2:=Ji mok
 have ok2:=meetL_ok mok
 have hn:=meetI_nv gd hne
 have hn2:=again_nv gd ok hne
 have c:=ZE (hs:=Zd++XL l) (fun f hf=>(Ku (Kd mok f hf)).n)
 -- an edge of the list is an edge again
 have fwd:∀ h∈XL l,Y4 Xq YM (XE (XL l)) h:=by
  intro h hh
  obtain ⟨hl,he⟩:=Kc gd hh
  obtain ⟨g0,hg,k0,hk,_,_,p,q,r,v1,v2⟩:=JQ gd hn hl he
  have low:∀ f∈XE (XL l),∀ a b,0<Xq a b→(∀ k∈l,0≤YM a b k)→0≤YM a b f:=by
   intro f hf a b hab hin
   obtain ⟨y,hy,cy⟩:=JI gd ok (c.mem f hf)
   exact (JH hab).2 (holds_cov (gd.nz y hy) (g2.nz f hf) cy (Int.le_of_lt (ZV (by omega))) ((JH hab).1 (hin y hy)))
  exact JG gom p q r (fun f hf=>low f hf h k0 q v1) (fun f hf=>low f hf g0 h p v2)
 have ex2:∃ e∈XE (XL l),Y4 Xq YM (XE (XL l)) e:=by
  obtain ⟨e,he⟩:=List.exists_mem_of_ne_nil _ hne
  exact ⟨e,Kr gd ok he,fwd e he⟩
 -- and the other way
 have bwd:∀ h∈XE (XL l),Y4 Xq YM (XE (XL l)) h→h∈XL l:=by
  intro h hh he
  rcases List.mem_append.1 (c.mem h hh) with hfr|hfr
  ·obtain ⟨g0,hg,k0,hk,_,_,p,q,r,v1,v2⟩:=JQ g2 hn2 hh he
   have up:∀ f∈l,∀ a b,0<Xq a b→(∀ k∈XE (XL l),0≤YM a b k)→0≤YM a b f:=by
    intro f hf a b hab hin
    exact (JH hab).2 (meetI_span gd hne (Int.le_of_lt (ZV (by omega))) (fun e he=>(JH hab).1 (hin e (Kr gd ok he))) f hf)
   obtain ⟨y,hy,cy⟩:=JI gd ok (List.mem_append_left (XL l) hfr)
   have hyh:y.c*XT h=h.c*XT y:=by
    have t:=up y hy h k0 q v1
    have n1:=gd.nz y hy
    have n2:=g2.nz h hh
    obtain ⟨e1,e2⟩:=Jg n1 n2 cy.1
    have id:XT h*YM h k0 y=XT y*YM h k0 h+Xq h k0*(y.c*XT h-h.c*XT y):=by
     simp only [YM,Xq];grind
    rw [gom.d0 h k0,Int.mul_zero,Int.zero_add] at id
    have t2:=Int.mul_nonneg (Int.le_of_lt (Yw n2)) t
    rw [id] at t2
    have:=gmn t2 q
    have:=cy.2
    omega
   have:=half_eq (ok y hy) (ok2 h hh) cy.1 hyh
   subst this
   exact mem_meetI gd hne hy (JG gom p q r (fun f hf=>up f hf y k0 q v1) (fun f hf=>up f hf g0 y p v2))
  ·exact hfr
 refine gsorted_ext (JM g2) (JM gd) (fun x=>⟨fun hx=>?_,fun hx=>?_⟩)
 ·obtain ⟨h1,h2⟩:=Kc g2 hx
  exact bwd x h1 h2
 ·have hv2:¬ voidB (XE (XL l))=true:=fun h=>hn2 ((JA g2).1 h)
  rw [meetI_nvoid hv2]
  exact List.mem_filter.2 ⟨Kr gd ok hx,(edge_iff g2 (g2.nz x (Kr gd ok hx))).2 (fwd x hx)⟩
end
/-- A region that was made is valid. -/
theorem regionOk_meet {hs:List Half} (hok:∀ h∈hs,Xr h=true) (hl:(XL (XE hs)).length≤40):Xm (XL (XE hs))=true:=by
 have gd:=Ji hok
 have ok:=meetL_ok hok
 by_cases hne:XL (XE hs)=[]
 ·rw [hne];rfl
 ·have ha:=meet_again gd ok hne
  have hall:(XL (XE hs)).all Xr=true:=by
   rw [List.all_eq_true];exact again_ok gd ok
  have hr:K9 (XL (XE hs))=true:=by
   unfold K9 Za
   rw [ha,hall,decide_eq_true hl];rfl
  unfold Xm rfR
  rw [if_pos hr,hr,ha]
  simp [eqB]
end Go.Proofs.YtkjimfapbjdafaaGreat
end
section
namespace Go.Proofs.YtkjimfapbjdafaaGreat
open Go.RowKit
theorem up_bef {u v:Half} (uu:Zm u=true) (uv:Zm v=true):Zc u v=true ↔ 0<Xq u v:=by
 unfold Zc;rw [uu,uv];simp
theorem up_tr {u v w:Half} (nu:Z1 u) (nv:Z1 v) (nw:Z1 w) (uu:Zm u=true) (uv:Zm v=true) (uw:Zm w=true) (h1:0<Xq u v) (h2:0<Xq v w):0<Xq u w :=
 (up_bef uu uw).1 (bef_trans nu nv nw ((up_bef uu uv).2 h1) ((up_bef uv uw).2 h2))
theorem neg_up {h:Half} (n:Z1 h) (e:Zm h=false):Zm (JO h)=true:=by rw [neg_upper n,e];rfl
theorem KH {u v:Half} (h:Zc u v=true):(Zm u=Zm v∧0<Xq u v)∨(Zm u=true∧Zm v=false):=by
 unfold Zc at h
 by_cases e:Zm u=Zm v
 ·rw [if_pos e] at h;exact .inl ⟨e,by simpa using h⟩
 ·rw [if_neg e] at h
  refine .inr ⟨h, ?_⟩
  rw [h] at e
  cases hv:Zm v
  ·rfl
  ·rw [hv] at e;exact absurd rfl e
theorem bef_mid {h f k:Half} (nh:Z1 h) (nf:Z1 f) (nk:Z1 k) (h1:Zc h f=true) (h2:Zc f k=true) (x:0<Xq h k):0<Xq h f∧0<Xq f k:=by
 have a1:=Y2 k h
 rcases KH h1 with ⟨e1,c1⟩|⟨e1,e2⟩
 ·rcases KH h2 with ⟨e3,c2⟩|⟨e3,e4⟩
  ·exact ⟨c1,c2⟩
  ·refine ⟨c1, ?_⟩
   have:=up_tr (neg_nz nk) nh nf (neg_up nk e4) (e1.trans e3) e3 (by rw [JR];omega) c1
   rw [JR] at this
   have:=Y2 f k
   omega
 ·rcases KH h2 with ⟨e3,c2⟩|⟨e3,e4⟩
  ·refine ⟨?_,c2⟩
   have:=up_tr (neg_nz nf) (neg_nz nk) nh (neg_up nf e2) (neg_up nk (e3 ▸ e2)) e1 (by rw [JR,Jl];omega) (by rw [JR];omega)
   rw [JR] at this
   have:=Y2 h f
   omega
  ·rw [e2] at e3;cases e3
theorem bef_wrap1 {k h f:Half} (nk:Z1 k) (nh:Z1 h) (nf:Z1 f) (h1:Zc k h=true) (h2:Zc h f=true) (x:0<Xq h k):0<Xq h f∧0<Xq f k:=by
 have a1:=Y2 k h
 rcases KH h1 with ⟨e1,c1⟩|⟨e1,e2⟩
 ·omega
 ·rcases KH h2 with ⟨e3,c2⟩|⟨e3,e4⟩
  ·refine ⟨c2, ?_⟩
   have:=up_tr nk (neg_nz nh) (neg_nz nf) e1 (neg_up nh e2) (neg_up nf (e3 ▸ e2)) (by rw [Jl];omega) (by rw [JR,Jl];omega)
   rw [Jl] at this
   have:=Y2 f k
   omega
  ·rw [e2] at e3;cases e3
theorem bef_wrap2 {f k h:Half} (nf:Z1 f) (nk:Z1 k) (nh:Z1 h) (h1:Zc f k=true) (h2:Zc k h=true) (x:0<Xq h k):0<Xq h f∧0<Xq f k:=by
 have a1:=Y2 k h
 rcases KH h2 with ⟨e1,c1⟩|⟨e1,e2⟩
 ·omega
 ·rcases KH h1 with ⟨e3,c2⟩|⟨e3,e4⟩
  ·refine ⟨?_,c2⟩
   have:=up_tr nf nk (neg_nz nh) (e3.trans e1) e1 (neg_up nh e2) c2 (by rw [Jl];omega)
   rw [Jl] at this
   have:=Y2 h f
   omega
  ·rw [e1] at e4;cases e4
/-- The next half plane of a list, behind the last one the first. -/
def nxt (p:List Half) (i:Nat):Half:=p.getD ((i+1) % p.length) Xl
theorem nxt_mem {p:List Half} {i:Nat} (h:i<p.length):nxt p i∈p:=Y0 (Nat.mod_lt _ (by omega))
/-- Neighbouring edges cross, turning left, at a point of all half planes. -/
theorem nxt_edge {l:List Half} (gd:Y8 l) (hne:XL l≠[]) {i:Nat} (hi:i<(XL l).length) :
 0<Xq ((XL l).getD i Xl) (nxt (XL l) i)∧∀ f∈l,0≤YM ((XL l).getD i Xl) (nxt (XL l) i) f:=by
 have hn:=meetI_nv gd hne
 have hs:=JM gd
 have hp:=Y0 hi
 obtain ⟨hl,he⟩:=Kc gd hp
 obtain ⟨_,_,k0,hk,_,ek,_,q,_,v1,_⟩:=JQ gd hn hl he
 have hk':=mem_meetI gd hne hk ek
 have hm:(i+1) % (XL l).length<(XL l).length:=Nat.mod_lt _ (by omega)
 have hmp:=Y0 hm
 obtain ⟨fl,fe⟩:=Kc gd hmp
 obtain ⟨j,hj,ej⟩:=Kq hk'
 have pw:∀ a b,a<b→b<(XL l).length→Zc ((XL l).getD a Xl) ((XL l).getD b Xl)=true:=by
  intro a b hab hb
  have:=List.pairwise_iff_getElem.1 hs a b (by omega) hb hab
  rw [List.getD_eq_getElem?_getD,List.getD_eq_getElem?_getD,List.getElem?_eq_getElem hb,List.getElem?_eq_getElem (by omega:a<(XL l).length)]
  exact this
 unfold nxt
 by_cases hmj:(i+1) % (XL l).length=j
 ·rw [hmj,ej];exact ⟨q,v1⟩
 ·exfalso
  have hji:j≠i:=by
   rintro rfl
   rw [ej,gom.x0] at q
   omega
  have nh:=gd.nz _ hl
  have nk:=gd.nz _ hk
  have nf:=gd.nz _ fl
  suffices 0<Xq ((XL l).getD i Xl) ((XL l).getD ((i+1) % (XL l).length) Xl)∧0<Xq ((XL l).getD ((i+1) % (XL l).length) Xl) k0 from
   none_between gom hl hk fl v1 this.1 this.2 fe
  rw [← ej] at q nk ⊢
  by_cases h1:i+1<(XL l).length
  ·rw [Nat.mod_eq_of_lt h1] at hmj nf ⊢
   rcases Nat.lt_or_ge j i with h2|h2
   ·exact bef_wrap1 nk nh nf (pw j i h2 hi) (pw i (i+1) (by omega) h1) q
   ·exact bef_mid nh nf nk (pw i (i+1) (by omega) h1) (pw (i+1) j (by omega) hj) q
  ·have h2:i+1=(XL l).length:=by omega
   rw [h2,Nat.mod_self] at hmj nf ⊢
   exact bef_wrap2 nf nk nh (pw 0 j (by omega) hj) (pw j i (by omega) hi) q
/-- What a valid region is. -/
theorem reg_iff {p:List Half} (h:Xm p=true):p=[]∨(p.length≤40∧(∀ h∈p,Xr h=true)∧XL (XE p)=p):=by
 unfold Xm at h
 rw [Bool.or_eq_true] at h
 rcases h with h|h
 ·exact .inl (List.length_eq_zero_iff.1 (by simpa using h))
 ·rw [Bool.and_eq_true] at h
  obtain ⟨h1,h2⟩:=h
  unfold rfR at h2
  rw [if_pos h1] at h2
  unfold K9 at h1
  simp only [Bool.and_eq_true,decide_eq_true_eq,List.all_eq_true] at h1
  exact .inr ⟨h1.1.1,h1.1.2,by simpa [eqB] using (Eq.symm (by simpa [eqB] using h2:p=_))⟩
theorem reg_ok {p:List Half} (h:Xm p=true):∀ h∈p,Xr h=true:=by
 rcases reg_iff h with rfl|h
 ·intro x hx;cases hx
 ·exact h.2.1
theorem KL {p:List Half} (h:Xm p=true):p.length≤40:=by
 rcases reg_iff h with rfl|h
 ·simp
 ·exact h.1
/-- The crossing of two borders. -/
def JS (h k:Half):XC:=(YG (KZ h k) (KY h k) (Zv h k)).getD spot0
def Yj (p:List Half):List XC:=(List.range p.length).map fun i=>JS (p.getD i Xl) (nxt p i)
theorem Zu (p:List Half):(Yj p).length=p.length:=by simp [Yj]
theorem corners_at (p:List Half) (i:Nat) (h:i<p.length):(Yj p)[i]'(by rw [Zu];exact h)=JS (p.getD i Xl) (nxt p i):=by simp [Yj]
/-- A corner of a valid region is a valid spot, and lies in all its half planes, on the borders of two. -/
structure Cnr (p:List Half) (h k:Half) (s:XC):Prop where
 ok:XQ s=true
 ins:∀ f∈p,KK f s.x s.y s.d
 on1:h.a*s.x+h.b*s.y=h.c*s.d
 on2:k.a*s.x+k.b*s.y=k.c*s.d
 turn:0<Xq h k
 sp:YG (KZ h k) (KY h k) (Zv h k)=some s
theorem reg_corner {p:List Half} (hr:Xm p=true) {i:Nat} (hi:i<p.length):Cnr p (p.getD i Xl) (nxt p i) (JS (p.getD i Xl) (nxt p i)):=by
 rcases reg_iff hr with rfl|⟨hl,hok,hm⟩
 ·cases hi
 ·have gd:=Ji hok
  have ok2:=meetL_ok hok
  have hne:XL (XE p)≠[]:=by rw [hm];intro e;rw [e] at hi;cases hi
  have hne':=nxt_edge gd hne (by rw [hm];exact hi)
  rw [hm] at hne'
  obtain ⟨hx,hin⟩:=hne'
  have h1:=Y0 hi
  have h2:=nxt_mem hi
  generalize p.getD i Xl=h at *
  generalize nxt p i=k at *
  have hk1:=hok h h1
  have hk2:=hok k h2
  have sub:∀ f∈p,f∈XE p:=fun f hf=>(Kc gd (by rw [hm];exact hf)).1
  have gi:gIn (XE p) h k=true:=(gIn_iff gd).2 ⟨by omega,fun f hf=>Int.mul_nonneg (by omega) (hin f hf)⟩
  obtain ⟨e1,hd⟩:=gIn_spot hk1 hk2 gi
  have gi2:=gi
  unfold gIn inPt at gi2
  simp only [Bool.and_eq_true,decide_eq_true_eq] at gi2
  obtain ⟨⟨⟨⟨⟨h0,q1⟩,q2⟩,q3⟩,q4⟩,_⟩:=gi2
  obtain ⟨_,ok⟩:=spotOf_in (x:=KZ h k) (y:=KY h k) (d:=Zv h k) ⟨by omega,crD_le hk1 hk2⟩ ⟨q2,q1⟩ ⟨q4,q3⟩
  have rs:=red_scale (x:=KZ h k) (y:=KY h k) (d:=Zv h k) (by omega)
  have es:JS h k=ZF (KZ h k) (KY h k) (Zv h k):=by unfold JS;rw [e1];rfl
  rw [es]
  have on1:=cr_on h k
  have on2:k.a*KZ h k+k.b*KY h k=k.c*Zv h k:=by
   have:=cr_in h k k
   rw [if_neg (by omega),gom.d1] at this
   omega
  have hall:∀ f∈p,KK f (KZ h k) (KY h k) (Zv h k):=fun f hf=>(JH hx).1 (hin f (sub f hf))
  generalize ZF (KZ h k) (KY h k) (Zv h k)=s at *
  generalize hX:KZ h k=X at *
  generalize hY:KY h k=Y at *
  generalize hD:Zv h k=D at *
  obtain ⟨pg,ex,ey,ed⟩:=rs
  generalize ((Xh [X,Y,D]:Nat):Int)=g at *
  refine ⟨ok,fun f hf=>?_, ?_, ?_,hx,by rw [hX,hY,hD];exact e1⟩
  ·have:=hall f hf
   unfold KK at *
   have id:g*(f.c*s.d-(f.a*s.x+f.b*s.y))=f.c*D-(f.a*X+f.b*Y):=by rw [ex,ey,ed];grind
   have:=gmn (a:=g) (b:=f.c*s.d-(f.a*s.x+f.b*s.y)) (by omega) pg
   omega
  ·have id:g*(h.a*s.x+h.b*s.y-h.c*s.d)=h.a*X+h.b*Y-h.c*D:=by rw [ex,ey,ed];grind
   have:=gmz (a:=g) (b:=h.a*s.x+h.b*s.y-h.c*s.d) (by omega) (by omega)
   omega
  ·have id:g*(k.a*s.x+k.b*s.y-k.c*s.d)=k.a*X+k.b*Y-k.c*D:=by rw [ex,ey,ed];grind
   have:=gmz (a:=g) (b:=k.a*s.x+k.b*s.y-k.c*s.d) (by omega) (by omega)
   omega
end Go.Proofs.YtkjimfapbjdafaaGreat
end
