/-
 Valid rooms: of the reference, part a.
 Conditions: the slices hold at most 2^20 elements.
-/
import Derived.Test.YtbekjpkcicjcgaaGreatRoom
import Derived.Deep.DrawnRows
import Derived.Test.YtbekjpkcicjcgaaGreatCnr
import Derived.JoinedOf
import Derived.Test.YtbekjpkcicjcgaaGreatCopy
import Derived.RegionTactic
import Derived.ChangeAlike
import Derived.Test.YtbekjpkcicjcgaaGreatEroM
import Derived.Deep.DeepCutAuto
import Derived.Deep.RegionHeld3
namespace Go.Proofs.YtbekjpkcicjcgaaGreat
open Go.RowKit
attribute [local go_sem ↓] Go.wp_at_zero Go.wp_at_succ
attribute [local go_sem ↓] Go.wp_at_zero Go.wp_at_succ
attribute [local go_sem ↓] Go.wp_at_zero Go.wp_at_succ
attribute [local go_sem ↓] Go.wp_at_zero Go.wp_at_succ
attribute [local go_sem ↓] Go.wp_at_zero Go.wp_at_succ
attribute [local go_sem ↓] Go.wp_at_zero Go.wp_at_succ
attribute [local go_sem ↓] Go.wp_at_zero Go.wp_at_succ
theorem j3_FnTop:(Rows.fnTopRow.recurses == Tryz.prog.recurses 3)=true:=by kernel_rfl
theorem j4_FnTop:(Rows.fnTopRow.named == Tryz.prog.varsNamed 3)=true:=by kernel_rfl
theorem roomOk_map {x:XD} (h:XJ x=true):x.map.length=4:=by
 simp only [XJ,turnOk,Bool.and_eq_true] at h;obtain ⟨m0,m1,m2,m3,e,_⟩:=map_four (by first|exact h.1.1.1.1.1.1.1.1|exact h.1.1.1.1.1.1.1|exact h.1.1.1.1.1.1|exact h.1.1.1.1.1|exact h.1.1.1.1|exact h.1.1.1|exact h.1.1);rw [e];rfl
theorem Zb.drew {w:World} {base:Nat} {x:XD} {a:Y7} (h:Zb w base x a):Zb w.drew base x a:=⟨h.map,⟨h.noise.halves⟩,⟨h.limits.halves⟩,h.apart⟩
theorem nodup_len {α:Type} [DecidableEq α]:∀ {l m:List α},l.Nodup->(∀ x∈l,x∈m)->l.length<=m.length
 | [],_,_,_=>Nat.zero_le _
 | x :: l,m,n,h=>by
  have hx:=h x (List.mem_cons_self ..);have n':=List.nodup_cons.1 n;have:=nodup_len (l:=l) (m:=m.erase x) n'.2 (λ y hy=>(List.mem_erase_of_ne (λ e=>n'.1 (by rw [<- e];exact hy))).2 (h y (List.mem_cons_of_mem _ hy)));rw [List.length_erase_of_mem hx] at this;have:=List.length_pos_of_mem hx;simp only [List.length_cons];omega
theorem frame_edge {l L:List Half} (gd:ZB l) (ok:∀ f∈l,Xs f=true) (hne:XK l≠[]) (g2:ZB L) (ok2:∀ f∈L,Xs f=true) (hn2:¬ GVoid L) (hcov:∀ f∈l,∃ y∈L,GCov y f) {h:Half} (hh:h∈L) (he:YK Xt YH L h) (hfr:∃ y∈l,GCov y h):h∈XK l:=by
 obtain ⟨g0,hg,k0,hk,_,_,p,q,r,v1,v2⟩:=edge_corners g2 hn2 hh he;have up:∀ f∈l,∀ a b,0<Xt a b->(∀ k∈L,0<=YH a b k)->0<=YH a b f:=by
  intro f hf a b hab hin;obtain ⟨y,hy,cy⟩:=hcov f hf;exact (det_holds hab).2 (holds_cov (g2.nz y hy) (gd.nz f hf) cy (Int.le_of_lt (KI Oz)) ((det_holds hab).1 (hin y hy)))
 obtain ⟨y,hy,cy⟩:=hfr;have hyh:y.c*X5 h=h.c*X5 y:=by
  have t:=up y hy h k0 q v1;have n1:=gd.nz y hy;have n2:=g2.nz h hh;obtain ⟨e1,e2⟩:=same_scale n1 n2 cy.1;have id:X5 h*YH h k0 y=X5 y*YH h k0 h+Xt h k0*(y.c*X5 h-h.c*X5 y):=by
   simp only [YH,Xt];grind
  rw [gom.d0 h k0,Int.mul_zero,Int.zero_add] at id;have t2:=Int.mul_nonneg (Int.le_of_lt (YP n2)) t;rw [id] at t2;have:=gmn t2 q;have:=cy.2;omega
 have:=half_eq (ok y hy) (ok2 h hh) cy.1 hyh;subst this;exact mem_meetI gd hne hy (edge_of_vertices gom p q r (λ f hf=>up f hf y k0 q v1) (λ f hf=>up f hf g0 y p v2))
theorem frame_cov {l:List Half} (gd:ZB l) {h:Half} (hh:h∈Yx):∃ y∈l,GCov y h:=by
 simp only [Yx,List.mem_cons,List.not_mem_nil,or_false] at hh;rcases hh with rfl|rfl|rfl|rfl
 ·exact gd.e
 ·exact gd.n
 ·exact gd.w
 ·exact gd.s
theorem reg_meetI {p:List Half} (h:Xc p=true) (hne:p≠[]):XK (Xk p)=p:=by
 rcases reg_iff h with rfl|h
 ·exact absurd rfl hne
 ·exact h.2.2
theorem app_ok {p q:List Half} (hp:∀ h∈p,Xs h=true) (hq:∀ h∈q,Xs h=true):∀ h∈p++q,Xs h=true:=by
 intro h hh;rcases List.mem_append.1 hh with h1|h1
 ·exact hp h h1
 ·exact hq h h1
theorem meet_sub {p q:List Half} (hp:Xc p=true) (hne:p≠[]) (hq:∀ h∈q,Xs h=true):∀ h∈XK (Xk (p++q)),h∈p++q:=by
 intro h hh;have pok:=Zp hp;have aok:=app_ok pok hq;have g1:=ZU pok;have g2:=ZU aok;have c1:=Zc (hs:=Yx++p) (λ f hf=>(Jt (ZM pok f hf)).n);have c2:=Zc (hs:=Yx++(p++q)) (λ f hf=>(Jt (ZM aok f hf)).n);obtain ⟨hl,he⟩:=Z8 g2 hh;have hn2:=meetI_nv g2 (List.ne_nil_of_mem hh);rcases List.mem_append.1 (c2.mem h hl) with hfr|hfr
 ·have hm:=frame_edge g1 (meetL_ok pok) (by rw [reg_meetI hp hne];exact hne) g2 (meetL_ok aok) hn2 (λ f hf=>by
   refine c2.cov f ?_;rcases List.mem_append.1 (c1.mem f hf) with h1|h1
   ·exact List.mem_append_left _ h1
   ·exact List.mem_append_right _ (List.mem_append_left _ h1)) hl he (frame_cov g1 hfr)
  rw [reg_meetI hp hne] at hm;exact List.mem_append_left _ hm
 ·exact hfr
theorem meet_len {p q:List Half} (hp:Xc p=true) (hne:p≠[]) (hq:∀ h∈q,Xs h=true):(XK (Xk (p++q))).length<=p.length+q.length:=by
 have:=nodup_len (meetI_sorted (ZU (app_ok (Zp hp) hq))).nodup (meet_sub hp hne hq);rw [List.length_append] at this;exact this
theorem meet_app_ok {p q:List Half} (hp:Xc p=true) (hne:p≠[]) (hq:∀ h∈q,Xs h=true) (hl:p.length+q.length<=40):Yt (Xk (p++q))=true:=by
 have:=meet_len hp hne hq;unfold Yt;rw [decide_eq_true_iff];omega
theorem regionOk_meetR {hs:List Half} (hok:∀ h∈hs,Xs h=true):Xc (X3 (Xk hs))=true:=by
 unfold X3;split
 ·rename_i h
  exact regionOk_meet hok (by simpa [Yt] using h)
 ·rfl
def InP (p:List Half) (x y d:Int):Prop:=∀ h∈p,YJ h x y d
theorem JS {a b k:Int} (hk:0<k) (h:a*k<=b*k):a<=b:=Int.le_of_mul_le_mul_right h hk
theorem holdsH_pt {h:Half} {s:XH}:holdsH s h=true ↔ YJ h s.x s.y s.d:=by
 unfold holdsH valS YJ;rw [decide_eq_true_eq];omega
theorem holdsB_pt {p:List Half} {s:XH}:YL p s=true ↔ p≠[]/\InP p s.x s.y s.d:=by
 unfold YL InP;rw [Bool.and_eq_true,List.all_eq_true];constructor
 ·rintro ⟨h1,h2⟩;exact ⟨by rintro rfl;simp at h1,λ h hh=>holdsH_pt.1 (h2 h hh)⟩
 ·rintro ⟨h1,h2⟩;refine ⟨?_,λ h hh=>holdsH_pt.2 (h2 h hh)⟩;cases p with
  | nil=>exact absurd rfl h1
  | cons a l=>simp
theorem inP_app {p q:List Half} {x y d:Int}:InP (p++q) x y d ↔ InP p x y d/\InP q x y d :=
 ⟨λ h=>⟨λ g hg=>h g (List.mem_append.2 (.inl hg)),λ g hg=>h g (List.mem_append.2 (.inr hg))⟩,λ h g hg=>(List.mem_append.1 hg).elim (h.1 g) (h.2 g)⟩
theorem far_at {xs:List XH} {a b:Int}:∀ k:Nat,k<=xs.length->k≠0->∃ j,j<k/\(YN xs a b k).2.1=K4 xs a b j/\(YN xs a b k).2.2=KQ xs j
 | 0,_,h=>absurd rfl h
 | k+1,hk,_=>by
  by_cases hc:(YN xs a b k).1<0∨0<Ju (K4 xs a b k) (KQ xs k) (YN xs a b k).2.1 (YN xs a b k).2.2
  ·rw [farAt_yes hc];exact ⟨k,Oz,rfl,rfl⟩
  ·rw [farAt_no hc];have hk0:k≠0:=by
    rintro rfl;apply hc;left;simp [YN]
   obtain ⟨j,h1,h2,h3⟩:=far_at (xs:=xs) (a:=a) (b:=b) k Oz hk0;exact ⟨j,Oz,h2,h3⟩
theorem corner_in {p:List Half} (hr:Xc p=true) {s:XH} (hs:s∈Xj p):InP p s.x s.y s.d/\Xo s=true:=by
 obtain ⟨i,hi,rfl⟩:=List.getElem_of_mem hs;have hi':i<p.length:=by rw [Y6] at hi;exact hi
 have C:=reg_corner hr hi';rw [corners_at p i hi'];exact ⟨C.ins,C.ok⟩
theorem corners_ne {p:List Half} (hne:p≠[]):∃ s,s∈Xj p:=by
 have:0<(Xj p).length:=by rw [Y6];exact List.length_pos_iff.2 hne
 exact ⟨_,List.getElem_mem this⟩
theorem Jy {s:XH} (h:Xo s=true):1<=s.d:=(ZF.1 h).1.1
theorem sup_at {p:List Half} (hr:Xc p=true) (hne:p≠[]) {a b:Int} (ha : -50000<=a/\a<=50000) (hb : -50000<=b/\b<=50000):∃ s∈Xj p,(ZS p a b).n*s.d=(a*s.x+b*s.y)*(ZS p a b).d:=by
 have B:=supB hr hne ha hb;have hn:=B.n;have hd:=B.d;obtain ⟨ok,k,hk,e1,e2⟩:=ZE (n:=(Jw p a b).2.1) (d:=(Jw p a b).2.2) ⟨Oz,Oz⟩ ⟨Oz,Oz⟩;change (Jw p a b).2.1=k*(ZS p a b).n at e1
 change (Jw p a b).2.2=k*(ZS p a b).d at e2
 obtain ⟨j,hj,h1,h2⟩:=far_at (xs:=Xj p) (a:=a) (b:=b) (Xj p).length Xy (by rw [Y6];have:=List.length_pos_iff.2 hne;omega);refine ⟨(Xj p).getD j Yi,getD_mem hj Yi, ?_⟩;change (Jw p a b).2.1=a*((Xj p).getD j Yi).x+b*((Xj p).getD j Yi).y at h1
 change (Jw p a b).2.2=((Xj p).getD j Yi).d at h2
 rw [<- h1,<- h2,e1,e2];rw [Int.mul_left_comm,Int.mul_assoc]
theorem cor_span {p:List Half} (hr:Xc p=true) (hne:p≠[]) {a b c:Int} (A : -50000<=a/\a<=50000) (B : -50000<=b/\b<=50000) (hc:∀ s∈Xj p,a*s.x+b*s.y<=c*s.d) {x y d:Int} (hd:0<d) (hp:InP p x y d):a*x+b*y<=c*d:=by
 have R:=supR hr hne A B;have g:=sup_ge hr hne A B hd hp;obtain ⟨s,hs,e⟩:=sup_at hr hne A B;have sd:=Jy (corner_in hr hs).2;have h1:=hc s hs;have D:=R.d;have m1:(a*s.x+b*s.y)*(ZS p a b).d<=c*s.d*(ZS p a b).d:=Int.mul_le_mul_of_nonneg_right h1 Oz;have m2:(ZS p a b).n<=c*(ZS p a b).d:=by
  refine JS (k:=s.d) Oz ?_;rw [e,Int.mul_right_comm c];exact m1
 have m3:(ZS p a b).n*d<=c*(ZS p a b).d*d:=Int.mul_le_mul_of_nonneg_right m2 Oz;refine JS (k:=(ZS p a b).d) Oz ?_;rw [Int.mul_right_comm c];omega
theorem within_pts {p q:List Half} (hp:Xc p=true) (hne:p≠[]) (hq:Xc q=true) (h:Zs p q=true):q≠[]/\∀ x y d,0<d->InP p x y d->InP q x y d:=by
 unfold Zs at h;rw [List.all_eq_true] at h;obtain ⟨s,hs⟩:=corners_ne hne;refine ⟨(holdsB_pt.1 (h s hs)).1,λ x y d hd hz g hg=>?_⟩;obtain ⟨A,B,_⟩:=Zk.1 (Zp hq g hg);exact cor_span hp hne A B (λ t ht=>(holdsB_pt.1 (h t ht)).2 g hg) hd hz
theorem pts_within {p q:List Half} (hp:Xc p=true) (hq:p≠[]->q≠[]) (h:p≠[]->∀ x y d,0<d->InP p x y d->InP q x y d):Zs p q=true:=by
 unfold Zs;rw [List.all_eq_true];intro s hs;have hne:p≠[]:=by rintro rfl;simp [Xj] at hs
 obtain ⟨h1,h2⟩:=corner_in hp hs;have:=Jy h2;exact holdsB_pt.2 ⟨hq hne,h hne _ _ _ Oz h1⟩
theorem reg_frame {p:List Half} (hr:Xc p=true) (hne:p≠[]) {x y d:Int} (hd:0<=d) (h:InP p x y d):InP Yx x y d:=by
 obtain ⟨_,hok,hm⟩:=(reg_iff hr).resolve_left hne;have hne2:XK (Xk p)≠[]:=by rw [hm];exact hne
 exact (inP_app.1 ((meet_holds hok hne2 hd).1 (by rw [hm];exact h))).1
theorem ne_of_inner {hs:List Half} (hok:∀ h∈hs,Xs h=true) {x y d:Int} (hd:0<d) (hst:∀ f∈Yx++hs,f.a*x+f.b*y<f.c*d):XK (Xk hs)≠[]:=by
 have gd:=ZU hok;have c:=Zc (hs:=Yx++hs) (λ f hf=>(Jt (ZM hok f hf)).n);have hst':∀ f∈Xk hs,0<slk x y d f:=by
  intro f hf;have:=hst f (c.mem f hf);unfold slk;omega
 obtain ⟨e,he,hedge⟩:=edge_exists gd hd hst';have hv:¬ voidB (Xk hs)=true:=λ h=>nvoid_of gd hst' hd ((J8 gd).1 h);rw [meetI_nvoid hv];intro h0;have:e∈(Xk hs).filter (KO (Xk hs)):=List.mem_filter.2 ⟨he,(edge_iff gd (gd.nz e he)).2 hedge⟩;rw [h0] at this;cases this
theorem halfOf_pts {a b c:Int} {g:Half} (h:Zd a b c=some g) {x y d:Int}:YJ g x y d ↔ a*x+b*y<=c*d:=by
 have hok:=halfOf_ok h;unfold Zd at h;split at h
 ·cases h
 ·rename_i h0
  split at h
  ·injection h with h
   obtain ⟨e1,e2,e3⟩:=@gcdAll_dvd a b c;have g0:((Xn [a,b,c]:Nat):Int)≠0:=by
    intro e;exact h0 (.inl Oz)
   rw [<- h];unfold YJ redHalf;simp only;have gp:=Int.natCast_nonneg (Xn [a,b,c]);clear h h0 hok;generalize ((Xn [a,b,c]:Nat):Int)=g at *;obtain ⟨p,rfl⟩:=e1;obtain ⟨q,rfl⟩:=e2;obtain ⟨r,rfl⟩:=e3;rw [Int.mul_tdiv_cancel_left _ g0,Int.mul_tdiv_cancel_left _ g0,Int.mul_tdiv_cancel_left _ g0];have e:g*p*x+g*q*y=g*(p*x+q*y):=by rw [Int.mul_add,Int.mul_assoc,Int.mul_assoc]
   rw [e,Int.mul_assoc];constructor
   ·intro k;exact Int.mul_le_mul_of_nonneg_left k gp
   ·intro k;exact Int.le_of_mul_le_mul_left k Oz
  ·cases h
theorem meetR_pts {hs:List Half} (hok:∀ h∈hs,Xs h=true) (hne:X3 (Xk hs)≠[]) {x y d:Int} (hd:0<=d):InP (X3 (Xk hs)) x y d ↔ InP Yx x y d/\InP hs x y d:=by
 unfold X3 at hne ⊢;split at hne
 ·rename_i h
  rw [if_pos h,<- inP_app];exact meet_holds hok hne hd
 ·exact absurd rfl hne
theorem movL_mem {f:Half->Option Half} {p:List Half} (ha:Zj f p=true) {g:Half}:g∈Ks f p ↔ ∃ h∈p,f h=some g:=by
 unfold Ks;rw [List.mem_map];unfold Zj at ha;rw [List.all_eq_true] at ha;constructor
 ·rintro ⟨h,hh,rfl⟩;refine ⟨h,hh, ?_⟩;obtain ⟨v,e⟩:=Option.isSome_iff_exists.1 (ha h hh);rw [e];rfl
 ·rintro ⟨h,hh,e⟩;exact ⟨h,hh,by rw [e];rfl⟩
theorem movR_pts {f:Half->Option Half} {p:List Half} (hf:∀ h∈p,∀ g,f h=some g->Xs g=true) (hne:ZD f p≠[]):p≠[]/\Zj f p=true/\∀ {x y d:Int},0<=d->(InP (ZD f p) x y d ↔ InP Yx x y d/\∀ h∈p,∀ g,f h=some g->YJ g x y d):=by
 have hp:p.length≠0:=λ h=>hne (mov_void h).2;have ha:Zj f p=true:=by
  cases e:Zj f p
  ·exfalso;apply hne;unfold ZD;rw [if_pos (.inr e)]
  ·rfl
 obtain ⟨_,e⟩:=mov_all hp ha;rw [e] at hne ⊢;refine ⟨by rintro rfl;exact hp rfl,ha,λ hd=>?_⟩;rw [meetR_pts (movL_ok hf ha) hne hd];refine and_congr_right λ _=>?_;constructor
 ·intro h k hk g hg;exact h g ((movL_mem ha).2 ⟨k,hk,hg⟩)
 ·intro h g hg;obtain ⟨k,hk,e⟩:=(movL_mem ha).1 hg;exact h k hk g e
theorem ero_pts {w:List Half} {h g:Half} (_:Xc w=true) (_:w≠[]) (_:Xs h=true) (e:Z3 w h=some g) {x y d:Int}:YJ g x y d ↔ (h.a*x+h.b*y)*(ZS w h.a h.b).d<=(h.c*(ZS w h.a h.b).d-(ZS w h.a h.b).n)*d:=by
 unfold Z3 at e;rw [halfOf_pts e,Int.add_mul,Int.mul_right_comm h.a,Int.mul_right_comm h.b]
theorem ero_add {w p:List Half} (hw:Xc w=true) (hwn:w≠[]) (hp:Xc p=true) (hne:ZD (Z3 w) p≠[]) {x y d u v e:Int} (hd:0<d) (he:0<e) (hz:InP (ZD (Z3 w) p) x y d) (ht:InP w u v e):InP p (x*e+u*d) (y*e+v*d) (d*e):=by
 obtain ⟨_,ha,hi⟩:=movR_pts (λ _ _ _ e=>eroH_ok e) hne;have hz2:=((hi Oz).1 hz).2;intro h hh;have hk:=Zp hp h hh;obtain ⟨A,B,_⟩:=Zk.1 hk;have R:=supR hw hwn A B;have D:=R.d;have s1:=sup_ge hw hwn A B he ht;unfold Zj at ha;rw [List.all_eq_true] at ha;obtain ⟨g,eg⟩:=Option.isSome_iff_exists.1 (ha h hh);have s2:=(ero_pts hw hwn hk eg).1 (hz2 h hh g eg);generalize (ZS w h.a h.b).d=dd at *;generalize (ZS w h.a h.b).n=nn at *;unfold YJ;refine JS (k:=dd) Oz ?_;have m1:=Int.mul_le_mul_of_nonneg_right s2 (show 0<=e by omega);have m2:=Int.mul_le_mul_of_nonneg_right s1 (show 0<=d by omega);have e1:(h.a*(x*e+u*d)+h.b*(y*e+v*d))*dd=(h.a*x+h.b*y)*dd*e+(h.a*u+h.b*v)*dd*d:=by grind
 have e2:h.c*(d*e)*dd=(h.c*dd-nn)*d*e+nn*e*d:=by grind
 omega
end Go.Proofs.YtbekjpkcicjcgaaGreat
