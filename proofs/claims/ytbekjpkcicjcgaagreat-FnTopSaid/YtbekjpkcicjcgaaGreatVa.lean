/-
 Appends to slices of the call's own, as steps of regions.
 Conditions: none.
-/
import Derived.Test.YtbekjpkcicjcgaaGreatPul
namespace Go.Proofs.YtbekjpkcicjcgaaGreat
open Go.RowKit
def blkL (A:Option Addr):List Nat:=match A with|some p=>[p.block]|none=>[]
theorem YX {A:Option Addr} {g:Nat} (h:∀ p,A=some p->p.block≠g):g ∉ blkL A:=by
 cases A with
 | none=>simp [blkL]
 | some p=>simp only [blkL,List.mem_singleton];exact λ e=>h p rfl e.symm
theorem blkL_in {A:Option Addr} {m:Nat} (h:m∈blkL A):∃ p,A=some p/\p.block=m:=by
 cases A with
 | none=>simp [blkL] at h
 | some p=>simp only [blkL,List.mem_singleton] at h;exact ⟨p,rfl,h.symm⟩
theorem Kp.grown {w w':World} {A:Option Addr} {n c:Nat} (hg:w.grownBy w' (Value.slice A n c).ownBlock):Kp (blkL A) w w':=by
 refine ⟨⟨hg.os,hg.tape,hg.output,hg.size,λ k hk=>absurd hk (Nat.not_lt_zero _)⟩,λ g hlt hm=>hg.block g hlt ?_⟩;cases A with
 | none=>intro e;cases e
 | some p =>
  intro e;injection e with e
  exact hm (by rw [e];simp [blkL])
theorem Kp.trans2 {M M':List Nat} {a w w':World} (h:Kp M a w) (k:Kp M' w w') (hm:∀ m∈M',m∈M∨a.heap.size<=m):Kp M a w' :=
 ⟨h.base.trans k.base,λ g hg hn=>(k.block g (Nat.lt_of_lt_of_le hg h.size) (λ q=>by rcases hm g q with r|r;exact hn r;omega)).trans (h.block g hg hn)⟩
theorem XG.nilN {α:Type} (T sz:Nat) (enc:α->List Value) (w:World) (base:Nat):XG T sz enc w base (Sv none ([]:List α).length 0) ([]:List α):=⟨none,0,rfl,World.ownsRow_nil _ _ _ _⟩
theorem one_slT {α:Type} {sz:Nat} {enc:α->List Value} {w:World} {g T:Nat} {y:α} (h:Xq w g T (enc y)):Sl sz enc w (some ⟨g,0,none⟩) [y]:=by
 intro _;refine ⟨g,0,rfl,h.lt,λ i hi j u hu=>?_⟩;obtain rfl:i=0:=by simp at hi;omega
 simp only [List.getElem_cons_zero] at hu;rw [show (0+0*sz+j)=j by omega,h.cell j];exact hu
theorem wp_app1 {α:Type} {T sz:Nat} {enc:α->List Value} (X5:∀ x,(enc x).length=sz) {P:Program} {o:Oper} {a:Act} {w:World} {N:Act->World->Prop} {Q:Exit->Act->World->Prop} {s x:Operand} {t:TypeId}
 (ho:o.op=.call { callee:=.builtin .append,args:=#[s,x],argTypes:=#[t,t] })
 (base:Nat) (i:TypeInfo) (z:Value) (bytes:Nat) (ht:P.underlying t=some (.slice T)) (hi:P.info? T=some i) (hz:i.zero=some z)
 (hsize:i.size=sz) (hby:i.bytes=bytes) (hzs:z.cells.size=sz) (hpos:0<sz)
 {A:Option Addr} {n c:Nat} {xs:List α} (hs:a.eval s=Sv A n c) (hown:XG T sz enc w base (Sv A n c) xs) {g T':Nat} (hx:a.eval x=Sv (some ⟨g,0,none⟩) 1 1) {y:α} (hy:Xq w g T' (enc y)) (h1:∀ y,∀ u∈enc y,u.oneCell'=true)
 (hbase:base<=w.heap.size) (hn:xs.length<=1000000000) (hbytes:bytes<=128)
 (hN:∀ A' c' w',XG T sz enc w' base (Sv A' (xs++[y]).length c') (xs++[y])->Kp (blkL A) w w'->N (a.put o.dst (Sv A' (xs++[y]).length c')) w'):o.wp P a w N Q:=by
 refine step_appO X5 s x t ho base i z bytes ht hi hz hsize hby hzs hpos hs hown (some ⟨g,0,none⟩) 1 (ys:=[y]) hx (one_slT hy) (λ e=>by cases e) h1 hbase (by simp only [List.length_singleton];omega) hbytes ?_;rintro v' w' ⟨A',c',rfl,h2⟩ _ hG;exact hN A' c' w' ⟨A',c',rfl,h2⟩ (Kp.grown hG)
theorem movL_next {f:Half->Option Half} {p:List Half} {k:Nat} (h:k<p.length) (hs:(f (p.getD k Xa)).isSome=true):Ks f (p.take (k+1))=Ks f (p.take k)++[(f (p.getD k Xa)).getD Xa]:=by
 have e:p.getD k Xa=p[k]:=by rw [List.getD_eq_getElem?_getD,List.getElem?_eq_getElem h,Option.getD_some]
 rw [e] at hs ⊢;obtain ⟨g,hg⟩:=Option.isSome_iff_exists.1 hs;rw [movL_take h hg,hg];rfl
theorem movAll_next {f:Half->Option Half} {p:List Half} {k:Nat} (h:k<p.length) (h1:Zj f (p.take k)=true) (hs:(f (p.getD k Xa)).isSome=true):Zj f (p.take (k+1))=true:=by
 have e:p.getD k Xa=p[k]:=by rw [List.getD_eq_getElem?_getD,List.getElem?_eq_getElem h,Option.getD_some]
 rw [e] at hs;obtain ⟨g,hg⟩:=Option.isSome_iff_exists.1 hs;exact movAll_take h h1 hg
theorem getD_halfOk {p:List Half} {k:Nat} (h:k<p.length) (hp:Xc p=true):Xs (p.getD k Xa)=true:=by
 have e:p.getD k Xa=p[k]:=by rw [List.getD_eq_getElem?_getD,List.getElem?_eq_getElem h,Option.getD_some]
 rw [e];exact Zp hp _ (List.getElem_mem h)
theorem X1.otherT {w:World} {base g T:Nat} {x:List Half} {a:Kt} {vs:List Value} (h:X1 w base x a) (hg:Xq w g T vs) (h0:136≠T) (us:List Value) (o:Nat):X1 (w.setCells g o us) base x a:=⟨h.halves.otherC (h.halves.typ hg h0) us o⟩
theorem Zb.otherT {w:World} {base g T:Nat} {x:XD} {a:Y7} {vs:List Value} (h:Zb w base x a) (hg:Xq w g T vs) (h0:3≠T) (h1:136≠T) (us:List Value) (o:Nat):Zb (w.setCells g o us) base x a:=⟨h.map.otherC (h.map.typ hg h0) us o,h.noise.otherT hg h1 us o,h.limits.otherT hg h1 us o,h.apart⟩
theorem Yn.otherT {w:World} {base g T:Nat} {x:Jw} {a:J4} {vs:List Value} (h:Yn w base x a) (hg:Xq w g T vs) (h0:3≠T) (h1:136≠T) (us:List Value) (o:Nat):Yn (w.setCells g o us) base x a:=⟨h.room.otherT hg h0 h1 us o,h.reg.otherT hg h1 us o,h.log.otherC (h.log.typ hg h0) us o,h.apart⟩
theorem ZR.otherT {w:World} {base g T:Nat} {x:Track} {a:TrackA} {vs:List Value} (h:ZR w base x a) (hg:Xq w g T vs) (h0:30≠T) (h1:46≠T) (us:List Value) (o:Nat):ZR (w.setCells g o us) base x a:=⟨h.spots.otherC (h.spots.typ hg h0) us o,h.inputs.otherC (h.inputs.typ hg h1) us o,h.apart⟩
def InP (p:List Half) (x y d:Int):Prop:=∀ h∈p,YJ h x y d
theorem JT {a b k:Int} (hk:0<k) (h:a*k<=b*k):a<=b:=Int.le_of_mul_le_mul_right h hk
theorem holdsH_pt {h:Half} {s:XH}:holdsH s h=true ↔ YJ h s.x s.y s.d:=by
 unfold holdsH valS YJ;rw [decide_eq_true_eq];omega
theorem holdsB_pt {p:List Half} {s:XH}:YL p s=true ↔ p≠[]/\InP p s.x s.y s.d:=by
 unfold YL InP;rw [Bool.and_eq_true,List.all_eq_true];constructor
 ·rintro ⟨h1,h2⟩;exact ⟨by rintro rfl;simp at h1,λ h hh=>holdsH_pt.1 (h2 h hh)⟩
 ·rintro ⟨h1,h2⟩;refine ⟨?_,λ h hh=>holdsH_pt.2 (h2 h hh)⟩;cases p with
  | nil=>exact absurd rfl h1
  | cons a l=>simp
theorem inP_app {p q:List Half} {x y d:Int}:InP (p++q) x y d ↔ InP p x y d/\InP q x y d :=
 ⟨λ h=>⟨λ g hg=>h g (List.mem_append.2 (.inl hg)),λ g hg=>h g (List.mem_append.2 (.inr hg))⟩,λ h g hg=>(List.mem_append.1 hg).elim (h.1 g) (h.2 g)⟩
theorem far_at {xs:List XH} {a b:Int}:∀ k:Nat,k<=xs.length->k≠0->∃ j,j<k/\(YN xs a b k).2.1=K6 xs a b j/\(YN xs a b k).2.2=KQ xs j
 | 0,_,h=>absurd rfl h
 | k+1,hk,_=>by
  by_cases hc:(YN xs a b k).1<0∨0<Jv (K6 xs a b k) (KQ xs k) (YN xs a b k).2.1 (YN xs a b k).2.2
  ·rw [farAt_yes hc];exact ⟨k,Oz,rfl,rfl⟩
  ·rw [farAt_no hc];have hk0:k≠0:=by
    rintro rfl;apply hc;left;simp [YN]
   obtain ⟨j,h1,h2,h3⟩:=far_at (xs:=xs) (a:=a) (b:=b) k Oz hk0;exact ⟨j,Oz,h2,h3⟩
theorem corner_in {p:List Half} (hr:Xc p=true) {s:XH} (hs:s∈Xj p):InP p s.x s.y s.d/\Xo s=true:=by
 obtain ⟨i,hi,rfl⟩:=List.getElem_of_mem hs;have hi':i<p.length:=by rw [Y6] at hi;exact hi
 have C:=reg_corner hr hi';rw [corners_at p i hi'];exact ⟨C.ins,C.ok⟩
theorem corners_ne {p:List Half} (hne:p≠[]):∃ s,s∈Xj p:=by
 have:0<(Xj p).length:=by rw [Y6];exact List.length_pos_iff.2 hne
 exact ⟨_,List.getElem_mem this⟩
theorem Jz {s:XH} (h:Xo s=true):1<=s.d:=(ZF.1 h).1.1
theorem sup_at {p:List Half} (hr:Xc p=true) (hne:p≠[]) {a b:Int} (ha : -50000<=a/\a<=50000) (hb : -50000<=b/\b<=50000):∃ s∈Xj p,(ZS p a b).n*s.d=(a*s.x+b*s.y)*(ZS p a b).d:=by
 have B:=supB hr hne ha hb;have hn:=B.n;have hd:=B.d;obtain ⟨ok,k,hk,e1,e2⟩:=ZE (n:=(Jy p a b).2.1) (d:=(Jy p a b).2.2) ⟨Oz,Oz⟩ ⟨Oz,Oz⟩;change (Jy p a b).2.1=k*(ZS p a b).n at e1
 change (Jy p a b).2.2=k*(ZS p a b).d at e2
 obtain ⟨j,hj,h1,h2⟩:=far_at (xs:=Xj p) (a:=a) (b:=b) (Xj p).length Xy (by rw [Y6];have:=List.length_pos_iff.2 hne;omega);refine ⟨(Xj p).getD j Yi,getD_mem hj Yi, ?_⟩;change (Jy p a b).2.1=a*((Xj p).getD j Yi).x+b*((Xj p).getD j Yi).y at h1
 change (Jy p a b).2.2=((Xj p).getD j Yi).d at h2
 rw [<- h1,<- h2,e1,e2];rw [Int.mul_left_comm,Int.mul_assoc]
theorem cor_span {p:List Half} (hr:Xc p=true) (hne:p≠[]) {a b c:Int} (A : -50000<=a/\a<=50000) (B : -50000<=b/\b<=50000) (hc:∀ s∈Xj p,a*s.x+b*s.y<=c*s.d) {x y d:Int} (hd:0<d) (hp:InP p x y d):a*x+b*y<=c*d:=by
 have R:=supR hr hne A B;have g:=sup_ge hr hne A B hd hp;obtain ⟨s,hs,e⟩:=sup_at hr hne A B;have sd:=Jz (corner_in hr hs).2;have h1:=hc s hs;have D:=R.d;have m1:(a*s.x+b*s.y)*(ZS p a b).d<=c*s.d*(ZS p a b).d:=Int.mul_le_mul_of_nonneg_right h1 Oz;have m2:(ZS p a b).n<=c*(ZS p a b).d:=by
  refine JT (k:=s.d) Oz ?_;rw [e,Int.mul_right_comm c];exact m1
 have m3:(ZS p a b).n*d<=c*(ZS p a b).d*d:=Int.mul_le_mul_of_nonneg_right m2 Oz;refine JT (k:=(ZS p a b).d) Oz ?_;rw [Int.mul_right_comm c];omega
theorem within_pts {p q:List Half} (hp:Xc p=true) (hne:p≠[]) (hq:Xc q=true) (h:Zs p q=true):q≠[]/\∀ x y d,0<d->InP p x y d->InP q x y d:=by
 unfold Zs at h;rw [List.all_eq_true] at h;obtain ⟨s,hs⟩:=corners_ne hne;refine ⟨(holdsB_pt.1 (h s hs)).1,λ x y d hd hz g hg=>?_⟩;obtain ⟨A,B,_⟩:=Zk.1 (Zp hq g hg);exact cor_span hp hne A B (λ t ht=>(holdsB_pt.1 (h t ht)).2 g hg) hd hz
theorem pts_within {p q:List Half} (hp:Xc p=true) (hq:p≠[]->q≠[]) (h:p≠[]->∀ x y d,0<d->InP p x y d->InP q x y d):Zs p q=true:=by
 unfold Zs;rw [List.all_eq_true];intro s hs;have hne:p≠[]:=by rintro rfl;simp [Xj] at hs
 obtain ⟨h1,h2⟩:=corner_in hp hs;have:=Jz h2;exact holdsB_pt.2 ⟨hq hne,h hne _ _ _ Oz h1⟩
theorem reg_frame {p:List Half} (hr:Xc p=true) (hne:p≠[]) {x y d:Int} (hd:0<=d) (h:InP p x y d):InP Yx x y d:=by
 obtain ⟨_,hok,hm⟩:=(reg_iff hr).resolve_left hne;have hne2:XK (Xk p)≠[]:=by rw [hm];exact hne
 exact (inP_app.1 ((meet_holds hok hne2 hd).1 (by rw [hm];exact h))).1
theorem ne_of_inner {hs:List Half} (hok:∀ h∈hs,Xs h=true) {x y d:Int} (hd:0<d) (hst:∀ f∈Yx++hs,f.a*x+f.b*y<f.c*d):XK (Xk hs)≠[]:=by
 have gd:=ZU hok;have c:=Zc (hs:=Yx++hs) (λ f hf=>(Ju (ZM hok f hf)).n);have hst':∀ f∈Xk hs,0<slk x y d f:=by
  intro f hf;have:=hst f (c.mem f hf);unfold slk;omega
 obtain ⟨e,he,hedge⟩:=edge_exists gd hd hst';have hv:¬ voidB (Xk hs)=true:=λ h=>nvoid_of gd hst' hd ((J9 gd).1 h);rw [meetI_nvoid hv];intro h0;have:e∈(Xk hs).filter (KO (Xk hs)):=List.mem_filter.2 ⟨he,(edge_iff gd (gd.nz e he)).2 hedge⟩;rw [h0] at this;cases this
theorem halfOf_pts {a b c:Int} {g:Half} (h:Zd a b c=some g) {x y d:Int}:YJ g x y d ↔ a*x+b*y<=c*d:=by
 have hok:=halfOf_ok h;unfold Zd at h;split at h
 ·cases h
 ·rename_i h0
  split at h
  ·injection h with h
   obtain ⟨e1,e2,e3⟩:=@gcdAll_dvd a b c;have g0:((Xn [a,b,c]:Nat):Int)≠0:=by
    intro e;exact h0 (.inl Oz)
   rw [<- h];unfold YJ redHalf;simp only;have gp:=Int.natCast_nonneg (Xn [a,b,c]);clear h h0 hok;generalize ((Xn [a,b,c]:Nat):Int)=g at *;obtain ⟨p,rfl⟩:=e1;obtain ⟨q,rfl⟩:=e2;obtain ⟨r,rfl⟩:=e3;rw [Int.mul_tdiv_cancel_left _ g0,Int.mul_tdiv_cancel_left _ g0,Int.mul_tdiv_cancel_left _ g0];have e:g*p*x+g*q*y=g*(p*x+q*y):=by rw [Int.mul_add,Int.mul_assoc,Int.mul_assoc]
   rw [e,Int.mul_assoc];constructor
   ·intro k;exact Int.mul_le_mul_of_nonneg_left k gp
   ·intro k;exact Int.le_of_mul_le_mul_left k Oz
  ·cases h
theorem meetR_pts {hs:List Half} (hok:∀ h∈hs,Xs h=true) (hne:X3 (Xk hs)≠[]) {x y d:Int} (hd:0<=d):InP (X3 (Xk hs)) x y d ↔ InP Yx x y d/\InP hs x y d:=by
 unfold X3 at hne ⊢;split at hne
 ·rename_i h
  rw [if_pos h,<- inP_app];exact meet_holds hok hne hd
 ·exact absurd rfl hne
theorem movL_mem {f:Half->Option Half} {p:List Half} (ha:Zj f p=true) {g:Half}:g∈Ks f p ↔ ∃ h∈p,f h=some g:=by
 unfold Ks;rw [List.mem_map];unfold Zj at ha;rw [List.all_eq_true] at ha;constructor
 ·rintro ⟨h,hh,rfl⟩;refine ⟨h,hh, ?_⟩;obtain ⟨v,e⟩:=Option.isSome_iff_exists.1 (ha h hh);rw [e];rfl
 ·rintro ⟨h,hh,e⟩;exact ⟨h,hh,by rw [e];rfl⟩
theorem movR_pts {f:Half->Option Half} {p:List Half} (hf:∀ h∈p,∀ g,f h=some g->Xs g=true) (hne:ZD f p≠[]):p≠[]/\Zj f p=true/\∀ {x y d:Int},0<=d->(InP (ZD f p) x y d ↔ InP Yx x y d/\∀ h∈p,∀ g,f h=some g->YJ g x y d):=by
 have hp:p.length≠0:=λ h=>hne (mov_void h).2;have ha:Zj f p=true:=by
  cases e:Zj f p
  ·exfalso;apply hne;unfold ZD;rw [if_pos (.inr e)]
  ·rfl
 obtain ⟨_,e⟩:=mov_all hp ha;rw [e] at hne ⊢;refine ⟨by rintro rfl;exact hp rfl,ha,λ hd=>?_⟩;rw [meetR_pts (movL_ok hf ha) hne hd];refine and_congr_right λ _=>?_;constructor
 ·intro h k hk g hg;exact h g ((movL_mem ha).2 ⟨k,hk,hg⟩)
 ·intro h g hg;obtain ⟨k,hk,e⟩:=(movL_mem ha).1 hg;exact h k hk g e
theorem ero_pts {w:List Half} {h g:Half} (_:Xc w=true) (_:w≠[]) (_:Xs h=true) (e:Z3 w h=some g) {x y d:Int}:YJ g x y d ↔ (h.a*x+h.b*y)*(ZS w h.a h.b).d<=(h.c*(ZS w h.a h.b).d-(ZS w h.a h.b).n)*d:=by
 unfold Z3 at e;rw [halfOf_pts e,Int.add_mul,Int.mul_right_comm h.a,Int.mul_right_comm h.b]
theorem ero_add {w p:List Half} (hw:Xc w=true) (hwn:w≠[]) (hp:Xc p=true) (hne:ZD (Z3 w) p≠[]) {x y d u v e:Int} (hd:0<d) (he:0<e) (hz:InP (ZD (Z3 w) p) x y d) (ht:InP w u v e):InP p (x*e+u*d) (y*e+v*d) (d*e):=by
 obtain ⟨_,ha,hi⟩:=movR_pts (λ _ _ _ e=>eroH_ok e) hne;have hz2:=((hi Oz).1 hz).2;intro h hh;have hk:=Zp hp h hh;obtain ⟨A,B,_⟩:=Zk.1 hk;have R:=supR hw hwn A B;have D:=R.d;have s1:=sup_ge hw hwn A B he ht;unfold Zj at ha;rw [List.all_eq_true] at ha;obtain ⟨g,eg⟩:=Option.isSome_iff_exists.1 (ha h hh);have s2:=(ero_pts hw hwn hk eg).1 (hz2 h hh g eg);generalize (ZS w h.a h.b).d=dd at *;generalize (ZS w h.a h.b).n=nn at *;unfold YJ;refine JT (k:=dd) Oz ?_;have m1:=Int.mul_le_mul_of_nonneg_right s2 (show 0<=e by omega);have m2:=Int.mul_le_mul_of_nonneg_right s1 (show 0<=d by omega);have e1:(h.a*(x*e+u*d)+h.b*(y*e+v*d))*dd=(h.a*x+h.b*y)*dd*e+(h.a*u+h.b*v)*dd*d:=by grind
 have e2:h.c*(d*e)*dd=(h.c*dd-nn)*d*e+nn*e*d:=by grind
 omega
end Go.Proofs.YtbekjpkcicjcgaaGreat
