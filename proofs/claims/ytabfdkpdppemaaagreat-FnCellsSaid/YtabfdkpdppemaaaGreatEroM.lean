/-
 The half planes of a moved region; boxes. No program is named here.
 Conditions: none.
-/
import Derived.Test.YtabfdkpdppemaaaGreatGrXa
namespace Go.Proofs.YtabfdkpdppemaaaGreat
open Go.RowKit
def Jf (f:Half->Option Half) (p:List Half):List Half:=p.map λ h=>(f h).getD Xd
def Kh (f:Half->Option Half) (p:List Half):Bool:=p.all λ h=>(f h).isSome
def ZZ (f:Half->Option Half) (p:List Half):Bool:=decide (p.length=0)||(Kh f p&&YO (Xz (Jf f p)))
def Kg (f:Half->Option Half) (p:List Half):List Half:=if p.length=0∨Kh f p=false then [] else Ym (Xz (Jf f p))
theorem mov_void {f:Half->Option Half} {p:List Half} (h:p.length=0):ZZ f p=true/\Kg f p=[]:=by
 unfold ZZ Kg;rw [decide_eq_true h,if_pos (.inl h)];exact ⟨rfl,rfl⟩
theorem mov_none {f:Half->Option Half} {p:List Half} {k:Nat} (h:k<p.length) (hn:f p[k]=none):ZZ f p=false/\Kg f p=[]:=by
 have ha:Kh f p=false:=by
  unfold Kh;rw [List.all_eq_false];exact ⟨p[k],List.getElem_mem h,by rw [hn];decide⟩
 unfold ZZ Kg;rw [ha,if_pos (.inr rfl),decide_eq_false (by omega)];exact ⟨rfl,rfl⟩
theorem mov_all {f:Half->Option Half} {p:List Half} (h:p.length≠0) (ha:Kh f p=true):ZZ f p=YO (Xz (Jf f p))/\Kg f p=Ym (Xz (Jf f p)):=by
 unfold ZZ Kg;rw [ha,decide_eq_false h,if_neg (by intro h2;rcases h2 with h2|h2;exact h h2;cases h2)];exact ⟨rfl,rfl⟩
theorem movL_take {f:Half->Option Half} {p:List Half} {k:Nat} {g:Half} (h:k<p.length) (hg:f p[k]=some g):Jf f (p.take (k+1))=Jf f (p.take k)++[g]:=by
 unfold Jf;rw [ZC p k h,List.map_append];simp [hg]
theorem movAll_take {f:Half->Option Half} {p:List Half} {k:Nat} {g:Half} (h:k<p.length) (h1:Kh f (p.take k)=true) (hg:f p[k]=some g):Kh f (p.take (k+1))=true:=by
 unfold Kh at h1 ⊢;rw [ZC p k h,List.all_append,h1];simp [hg]
theorem movL_ok {f:Half->Option Half} {p:List Half} (hf:∀ h∈p,∀ g,f h=some g->XG g=true) (ha:Kh f p=true):∀ g∈Jf f p,XG g=true:=by
 intro g hg;unfold Jf at hg;obtain ⟨h,hh,rfl⟩:=List.mem_map.1 hg;unfold Kh at ha;have:=List.all_eq_true.1 ha h hh;cases e:f h with
 | none=>rw [e] at this;cases this
 | some g=>exact hf h hh g e
theorem movL_len (f:Half->Option Half) (p:List Half):(Jf f p).length=p.length:=by unfold Jf;rw [List.length_map]
theorem halfOf_ok {a b c:Int} {g:Half} (h:Yf a b c=some g):XG g=true:=by
 unfold Yf at h;split at h
 ·cases h
 split at h
 ·rename_i h2
  cases h;exact h2
 ·cases h
theorem movR_ok {f:Half->Option Half} {p:List Half} (hf:∀ h∈p,∀ g,f h=some g->XG g=true):Xi (Kg f p)=true:=by
 unfold Kg;split
 ·rfl
 ·rename_i h
  have ha:Kh f p=true:=by
   cases e:Kh f p
   ·exact absurd (.inr e) h
   ·rfl
  unfold Ym;split
  ·rename_i h2
   unfold YO at h2;exact regionOk_meet (movL_ok hf ha) (of_decide_eq_true h2)
  ·rfl
theorem eroH_ok {q:List Half} {h g:Half} (e:KA q h=some g):XG g=true:=halfOf_ok e
structure EroB (h:Half) (r:X5):Prop where
 x : -250000000000000<=h.a*r.d/\h.a*r.d<=250000000000000
 y : -250000000000000<=h.b*r.d/\h.b*r.d<=250000000000000
 c : -500000000000000000<=h.c*r.d/\h.c*r.d<=500000000000000000
 n : -500000000000000000<=r.n/\r.n<=500000000000000000
 d:1<=r.d/\r.d<=5000000000
theorem eroB {h:Half} {q:List Half} (hh:XG h=true) (hq:Xi q=true) (hne:q≠[]):EroB h (KE q h.a h.b):=by
 obtain ⟨a1,a2,a3,_⟩:=Zx.1 hh;have R:=supR hq hne (a:=h.a) (b:=h.b) ⟨by omega,by omega⟩ ⟨by omega,by omega⟩;have d1:=R.d;have p:=J6 (a:=h.a) (b:=(KE q h.a h.b).d) (A:=50000) (B:=5000000000) ⟨by omega,by omega⟩ ⟨by omega,by omega⟩;have q2:=J6 (a:=h.b) (b:=(KE q h.a h.b).d) (A:=50000) (B:=5000000000) ⟨by omega,by omega⟩ ⟨by omega,by omega⟩;have r:=J6 (a:=h.c) (b:=(KE q h.a h.b).d) (A:=100000000) (B:=5000000000) ⟨by omega,by omega⟩ ⟨by omega,by omega⟩;exact ⟨⟨by omega,by omega⟩,⟨by omega,by omega⟩,⟨by omega,by omega⟩,R.n,R.d⟩
def Kx (x y:Int):List Half:=[⟨1,0,x⟩,⟨0,1,y⟩,⟨-1,0,x⟩,⟨0,-1,y⟩]
def boxR (x y:Int):List Half:=X3 (Xz (Kx x y))
theorem gcd_unit {a b c:Int} (h:a=1∨a = -1∨b=1∨b = -1):Xl [a,b,c]=1:=by
 obtain ⟨h1,h2,_⟩:=@gcdAll_dvd a b c;have k1:=Int.natAbs_dvd_natAbs.2 h1;have k2:=Int.natAbs_dvd_natAbs.2 h2;rcases h with rfl|rfl|rfl|rfl
 ·simp at k1;exact k1
 ·simp at k1;exact k1
 ·simp at k2;exact k2
 ·simp at k2;exact k2
theorem boxHs_ok {x y:Int} (hx:1<=x/\x<=100) (hy:1<=y/\y<=100):∀ h∈Kx x y,XG h=true:=by
 intro h hh;simp only [Kx,List.mem_cons,List.not_mem_nil,or_false] at hh;rcases hh with rfl|rfl|rfl|rfl<;>refine Zx.2 ⟨⟨by simp,by simp⟩,⟨by simp,by simp⟩,⟨by simp only;omega,by simp only;omega⟩,by simp, ?_⟩
 ·exact gcd_unit (.inl rfl)
 ·exact gcd_unit (.inr (.inr (.inl rfl)))
 ·exact gcd_unit (.inr (.inl rfl))
 ·exact gcd_unit (.inr (.inr (.inr rfl)))
theorem box_len (x y:Int):(X3 (Xz (Kx x y))).length<=40:=by
 have h1:=meetI_len (Xz (Kx x y));have h2:=meetL_len (Kx x y);have h3:(Kx x y).length=4:=rfl;omega
theorem boxR_ok {x y:Int} (hx:1<=x/\x<=100) (hy:1<=y/\y<=100):Xi (boxR x y)=true:=regionOk_meet (boxHs_ok hx hy) (box_len x y)
theorem box_meet (x y:Int):YO (Xz (Kx x y))=true/\Ym (Xz (Kx x y))=boxR x y:=by
 have h:YO (Xz (Kx x y))=true:=decide_eq_true (box_len x y);refine ⟨h, ?_⟩;unfold Ym;rw [if_pos h];rfl
theorem boxR_ne {x y:Int} (hx:1<=x/\x<=100) (hy:1<=y/\y<=100):boxR x y≠[]:=by
 have hok:=boxHs_ok hx hy;have gd:=Kv hok;have c:=ZB (hs:=Y4++Kx x y) (λ f hf=>(hOk (Kl hok f hf)).n);have hst:∀ f∈Xz (Kx x y),0<slk 0 0 1 f:=by
  intro f hf;have hm:=c.mem f hf;simp only [Y4,Kx,List.cons_append,List.nil_append,List.mem_cons,List.not_mem_nil,or_false] at hm;rcases hm with rfl|rfl|rfl|rfl|rfl|rfl|rfl|rfl<;>(unfold slk;simp only;omega)
 obtain ⟨e,he,hedge⟩:=edge_exists gd (by decide) hst;have hv:¬ voidB (Xz (Kx x y))=true:=λ h=>nvoid_of gd hst (by decide) ((voidB_iff gd).1 h);unfold boxR;rw [meetI_nvoid hv];intro h0;have:e∈(Xz (Kx x y)).filter (JH (Xz (Kx x y))):=List.mem_filter.2 ⟨he,(edge_iff gd (gd.nz e he)).2 hedge⟩;rw [h0] at this;cases this
def InP (p:List Half) (x y d:Int):Prop:=∀ h∈p,Zf h x y d
theorem le_cancel {a b k:Int} (hk:0<k) (h:a*k<=b*k):a<=b:=Int.le_of_mul_le_mul_right h hk
theorem holdsH_pt {h:Half} {s:XQ}:holdsH s h=true ↔ Zf h s.x s.y s.d:=by
 unfold holdsH valS Zf;rw [decide_eq_true_eq];omega
theorem holdsB_pt {p:List Half} {s:XQ}:Zl p s=true ↔ p≠[]/\InP p s.x s.y s.d:=by
 unfold Zl InP;rw [Bool.and_eq_true,List.all_eq_true];constructor
 ·rintro ⟨h1,h2⟩;exact ⟨by rintro rfl;simp at h1,λ h hh=>holdsH_pt.1 (h2 h hh)⟩
 ·rintro ⟨h1,h2⟩;refine ⟨?_,λ h hh=>holdsH_pt.2 (h2 h hh)⟩;cases p with
  | nil=>exact absurd rfl h1
  | cons a l=>simp
theorem inP_app {p q:List Half} {x y d:Int}:InP (p++q) x y d ↔ InP p x y d/\InP q x y d :=
 ⟨λ h=>⟨λ g hg=>h g (List.mem_append.2 (.inl hg)),λ g hg=>h g (List.mem_append.2 (.inr hg))⟩,λ h g hg=>(List.mem_append.1 hg).elim (h.1 g) (h.2 g)⟩
theorem corner_in {p:List Half} (hr:Xi p=true) {s:XQ} (hs:s∈XA p):InP p s.x s.y s.d/\Xv s=true:=by
 obtain ⟨i,hi,rfl⟩:=List.getElem_of_mem hs;have hi':i<p.length:=by rw [Zv] at hi;exact hi
 have C:=reg_corner hr hi';rw [corners_at p i hi'];exact ⟨C.ins,C.ok⟩
theorem spot_pos {s:XQ} (h:Xv s=true):1<=s.d:=(ZL.1 h).1.1
theorem reg_frame {p:List Half} (hr:Xi p=true) (hne:p≠[]) {x y d:Int} (hd:0<=d) (h:InP p x y d):InP Y4 x y d:=by
 obtain ⟨_,hok,hm⟩:=(reg_iff hr).resolve_left hne;have hne2:X3 (Xz p)≠[]:=by rw [hm];exact hne
 exact (inP_app.1 ((meet_holds hok hne2 hd).1 (by rw [hm];exact h))).1
theorem ne_of_inner {hs:List Half} (hok:∀ h∈hs,XG h=true) {x y d:Int} (hd:0<d) (hst:∀ f∈Y4++hs,f.a*x+f.b*y<f.c*d):X3 (Xz hs)≠[]:=by
 have gd:=Kv hok;have c:=ZB (hs:=Y4++hs) (λ f hf=>(hOk (Kl hok f hf)).n);have hst':∀ f∈Xz hs,0<slk x y d f:=by
  intro f hf;have:=hst f (c.mem f hf);unfold slk;omega
 obtain ⟨e,he,hedge⟩:=edge_exists gd hd hst';have hv:¬ voidB (Xz hs)=true:=λ h=>nvoid_of gd hst' hd ((voidB_iff gd).1 h);rw [meetI_nvoid hv];intro h0;have:e∈(Xz hs).filter (JH (Xz hs)):=List.mem_filter.2 ⟨he,(edge_iff gd (gd.nz e he)).2 hedge⟩;rw [h0] at this;cases this
theorem halfOf_pts {a b c:Int} {g:Half} (h:Yf a b c=some g) {x y d:Int}:Zf g x y d ↔ a*x+b*y<=c*d:=by
 have hok:=halfOf_ok h;unfold Yf at h;split at h
 ·cases h
 ·rename_i h0
  split at h
  ·injection h with h
   obtain ⟨e1,e2,e3⟩:=@gcdAll_dvd a b c;have g0:((Xl [a,b,c]:Nat):Int)≠0:=by
    intro e;exact h0 (.inl (by omega))
   rw [<- h];unfold Zf redHalf;simp only;have gp:=Int.natCast_nonneg (Xl [a,b,c]);clear h h0 hok;generalize ((Xl [a,b,c]:Nat):Int)=g at *;obtain ⟨p,rfl⟩:=e1;obtain ⟨q,rfl⟩:=e2;obtain ⟨r,rfl⟩:=e3;rw [Int.mul_tdiv_cancel_left _ g0,Int.mul_tdiv_cancel_left _ g0,Int.mul_tdiv_cancel_left _ g0];have e:g*p*x+g*q*y=g*(p*x+q*y):=by rw [Int.mul_add,Int.mul_assoc,Int.mul_assoc]
   rw [e,Int.mul_assoc];constructor
   ·intro k;exact Int.mul_le_mul_of_nonneg_left k gp
   ·intro k;exact Int.le_of_mul_le_mul_left k (by omega)
  ·cases h
theorem meetR_pts {hs:List Half} (hok:∀ h∈hs,XG h=true) (hne:Ym (Xz hs)≠[]) {x y d:Int} (hd:0<=d):InP (Ym (Xz hs)) x y d ↔ InP Y4 x y d/\InP hs x y d:=by
 unfold Ym at hne ⊢;split at hne
 ·rename_i h
  rw [if_pos h,<- inP_app];exact meet_holds hok hne hd
 ·exact absurd rfl hne
theorem movL_mem {f:Half->Option Half} {p:List Half} (ha:Kh f p=true) {g:Half}:g∈Jf f p ↔ ∃ h∈p,f h=some g:=by
 unfold Jf;rw [List.mem_map];unfold Kh at ha;rw [List.all_eq_true] at ha;constructor
 ·rintro ⟨h,hh,rfl⟩;refine ⟨h,hh, ?_⟩;obtain ⟨v,e⟩:=Option.isSome_iff_exists.1 (ha h hh);rw [e];rfl
 ·rintro ⟨h,hh,e⟩;exact ⟨h,hh,by rw [e];rfl⟩
theorem movR_pts {f:Half->Option Half} {p:List Half} (hf:∀ h∈p,∀ g,f h=some g->XG g=true) (hne:Kg f p≠[]):p≠[]/\Kh f p=true/\∀ {x y d:Int},0<=d->(InP (Kg f p) x y d ↔ InP Y4 x y d/\∀ h∈p,∀ g,f h=some g->Zf g x y d):=by
 have hp:p.length≠0:=λ h=>hne (mov_void h).2;have ha:Kh f p=true:=by
  cases e:Kh f p
  ·exfalso;apply hne;unfold Kg;rw [if_pos (.inr e)]
  ·rfl
 obtain ⟨_,e⟩:=mov_all hp ha;rw [e] at hne ⊢;refine ⟨by rintro rfl;exact hp rfl,ha,λ hd=>?_⟩;rw [meetR_pts (movL_ok hf ha) hne hd];refine and_congr_right λ _=>?_;constructor
 ·intro h k hk g hg;exact h g ((movL_mem ha).2 ⟨k,hk,hg⟩)
 ·intro h g hg;obtain ⟨k,hk,e⟩:=(movL_mem ha).1 hg;exact h k hk g e
theorem ero_pts {w:List Half} {h g:Half} (_:Xi w=true) (_:w≠[]) (_:XG h=true) (e:KA w h=some g) {x y d:Int}:Zf g x y d ↔ (h.a*x+h.b*y)*(KE w h.a h.b).d<=(h.c*(KE w h.a h.b).d-(KE w h.a h.b).n)*d:=by
 unfold KA at e;rw [halfOf_pts e,Int.add_mul,Int.mul_right_comm h.a,Int.mul_right_comm h.b]
theorem ero_add {w p:List Half} (hw:Xi w=true) (hwn:w≠[]) (hp:Xi p=true) (hne:Kg (KA w) p≠[]) {x y d u v e:Int} (hd:0<d) (he:0<e) (hz:InP (Kg (KA w) p) x y d) (ht:InP w u v e):InP p (x*e+u*d) (y*e+v*d) (d*e):=by
 obtain ⟨_,ha,hi⟩:=movR_pts (λ _ _ _ e=>eroH_ok e) hne;have hz2:=((hi (by omega)).1 hz).2;intro h hh;have hk:=ZH hp h hh;obtain ⟨A,B,_⟩:=Zx.1 hk;have R:=supR hw hwn A B;have D:=R.d;have s1:=sup_ge hw hwn A B he ht;unfold Kh at ha;rw [List.all_eq_true] at ha;obtain ⟨g,eg⟩:=Option.isSome_iff_exists.1 (ha h hh);have s2:=(ero_pts hw hwn hk eg).1 (hz2 h hh g eg);generalize (KE w h.a h.b).d=dd at *;generalize (KE w h.a h.b).n=nn at *;unfold Zf;refine le_cancel (k:=dd) (by omega) ?_;have m1:=Int.mul_le_mul_of_nonneg_right s2 (show 0<=e by omega);have m2:=Int.mul_le_mul_of_nonneg_right s1 (show 0<=d by omega);have e1:(h.a*(x*e+u*d)+h.b*(y*e+v*d))*dd=(h.a*x+h.b*y)*dd*e+(h.a*u+h.b*v)*dd*d:=by grind
 have e2:h.c*(d*e)*dd=(h.c*dd-nn)*d*e+nn*e*d:=by grind
 omega
end Go.Proofs.YtabfdkpdppemaaaGreat
