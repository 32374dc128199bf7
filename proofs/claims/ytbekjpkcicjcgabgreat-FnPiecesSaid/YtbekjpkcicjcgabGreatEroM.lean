/-
 The half planes of a moved region; boxes. No program is named here.
 Conditions: none.
-/
import Derived.ProofKit
import Derived.OpenShut
import Derived.ChangeOld
import Derived.Below
import Derived.Deep.RegionHeld3
import Derived.Deep.DeepMust
import Derived.Deep.DeepCutAuto
import Derived.Test.YtbekjpkcicjcgabGreatGrXa
import Derived.RegionTactic
import Derived.ChangeAlike
set_option maxRecDepth 100000
namespace Go.Proofs.YtbekjpkcicjcgabGreat
open Go.RowKit
def movL (f:Half->Option Half) (p:List Half):List Half:=p.map λ h=>(f h).getD Xb
def Ko (f:Half->Option Half) (p:List Half):Bool:=p.all λ h=>(f h).isSome
def movOk (f:Half->Option Half) (p:List Half):Bool:=decide (p.length=0)||(Ko f p&&Yw (Xk (movL f p)))
def movR (f:Half->Option Half) (p:List Half):List Half:=if p.length=0∨Ko f p=false then [] else Yk (Xk (movL f p))
theorem mov_void {f:Half->Option Half} {p:List Half} (h:p.length=0):movOk f p=true/\movR f p=[]:=by
 unfold movOk movR;rw [decide_eq_true h,if_pos (.inl h)];exact ⟨rfl,rfl⟩
theorem mov_all {f:Half->Option Half} {p:List Half} (h:p.length≠0) (ha:Ko f p=true):movOk f p=Yw (Xk (movL f p))/\movR f p=Yk (Xk (movL f p)):=by
 unfold movOk movR;rw [ha,decide_eq_false h,if_neg (by intro h2;rcases h2 with h2|h2;exact h h2;cases h2)];exact ⟨rfl,rfl⟩
theorem movL_ok {f:Half->Option Half} {p:List Half} (hf:∀ h∈p,∀ g,f h=some g->Xq g=true) (ha:Ko f p=true):∀ g∈movL f p,Xq g=true:=by
 intro g hg;unfold movL at hg;obtain ⟨h,hh,rfl⟩:=List.mem_map.1 hg;unfold Ko at ha;have:=List.all_eq_true.1 ha h hh;cases e:f h with
 | none=>rw [e] at this;cases this
 | some g=>exact hf h hh g e
theorem halfOf_ok {a b c:Int} {g:Half} (h:XO a b c=some g):Xq g=true:=by
 unfold XO at h;split at h
 ·cases h
 split at h
 ·rename_i h2
  cases h;exact h2
 ·cases h
theorem movR_ok {f:Half->Option Half} {p:List Half} (hf:∀ h∈p,∀ g,f h=some g->Xq g=true):Xc (movR f p)=true:=by
 unfold movR;split
 ·rfl
 ·rename_i h
  have ha:Ko f p=true:=by
   cases e:Ko f p
   ·exact absurd (.inr e) h
   ·rfl
  unfold Yk;split
  ·rename_i h2
   unfold Yw at h2;exact regionOk_meet (movL_ok hf ha) (of_decide_eq_true h2)
  ·rfl
theorem eroH_ok {q:List Half} {h g:Half} (e:KC q h=some g):Xq g=true:=halfOf_ok e
end Go.Proofs.YtbekjpkcicjcgabGreat
namespace Go.Proofs.YtbekjpkcicjcgabGreat
open Go.RowKit Go.ChangeShapes Go.WideShapes Go.ChangeAt Go.Deep
theorem own_:ownKnob Tryz.prog.godebug=none:=by kernel_rfl
theorem laidOut_:laidOutB Tryz.prog=true:=by kernel_rfl
section
variable {H:Type} {enc:TypeId × Value->H} {P:Program} {w:World} {base:Nat} {spare:Nat->Bool} {held:Bool}
end
end Go.Proofs.YtbekjpkcicjcgabGreat
namespace Go.Proofs.YtbekjpkcicjcgabGreat
open Go.RowKit
theorem Yi.drew {w:World} {base:Nat} {x:XK} {a:Yq} (h:Yi w base x a):Yi w.drew base x a:=⟨h.map,⟨h.noise.halves⟩,⟨h.limits.halves⟩,h.apart⟩
def InP (p:List Half) (x y d:Int):Prop:=∀ h∈p,Yp h x y d
theorem le_cancel {a b k:Int} (hk:0<k) (h:a*k<=b*k):a<=b:=Int.le_of_mul_le_mul_right h hk
theorem inP_app {p q:List Half} {x y d:Int}:InP (p++q) x y d ↔ InP p x y d/\InP q x y d :=
 ⟨λ h=>⟨λ g hg=>h g (List.mem_append.2 (.inl hg)),λ g hg=>h g (List.mem_append.2 (.inr hg))⟩,λ h g hg=>(List.mem_append.1 hg).elim (h.1 g) (h.2 g)⟩
theorem corner_in {p:List Half} (hr:Xc p=true) {s:XW} (hs:s∈XD p):InP p s.x s.y s.d/\XP s=true:=by
 obtain ⟨i,hi,rfl⟩:=List.getElem_of_mem hs;have hi':i<p.length:=by rw [YY] at hi;exact hi
 have C:=reg_corner hr hi';rw [corners_at p i hi'];exact ⟨C.ins,C.ok⟩
theorem corners_ne {p:List Half} (hne:p≠[]):∃ s,s∈XD p:=by
 have:0<(XD p).length:=by rw [YY];exact List.length_pos_iff.2 hne
 exact ⟨_,List.getElem_mem this⟩
theorem spot_pos {s:XW} (h:XP s=true):1<=s.d:=(ZO.1 h).1.1
theorem reg_frame {p:List Half} (hr:Xc p=true) (hne:p≠[]) {x y d:Int} (hd:0<=d) (h:InP p x y d):InP Yj x y d:=by
 obtain ⟨_,hok,hm⟩:=(reg_iff hr).resolve_left hne;have hne2:Xw (Xk p)≠[]:=by rw [hm];exact hne
 exact (inP_app.1 ((meet_holds hok hne2 hd).1 (by rw [hm];exact h))).1
theorem reg_three {p:List Half} (hr:Xc p=true) (hne':p≠[]):∃ x0 y0 d0 x1 y1 d1 x2 y2 d2:Int,(0<d0/\0<d1/\0<d2)/\det3 x0 y0 d0 x1 y1 d1 x2 y2 d2≠0/\InP p x0 y0 d0/\InP p x1 y1 d1/\InP p x2 y2 d2:=by
 obtain ⟨_,hok,hm⟩:=(reg_iff hr).resolve_left hne';have hne:Xw (Xk p)≠[]:=by rw [hm];exact hne'
 have gd:=Zj hok;have hn:=JR gd hne;have nv:=gd.nv hn;obtain ⟨h,hh,he⟩:=meetI_ex gd hne;obtain ⟨g0,hg0,k0,hk0,eg0,ek0,x0,x1,dd,v1,v0⟩:=Jo gd hn hh he;obtain ⟨k1,hk1,x2,v2,s2,ek1⟩:=gnext gom nv hk0 ek0 (gd.around (gd.nz k0 hk0)).1;have hold:∀ {p' q:Half},0<Xp p' q->(∀ f∈Xk p,0<=Ya p' q f)->InP p (J2 p' q) (J0 p' q) (ZZ p' q):=by
  intro p' q hx hv;refine (inP_app.1 ((meet_holds hok hne (by have:=ZL (show Xp p' q≠0 by omega);omega)).1 (λ e he=>?_))).2;exact (Je hx).1 (hv e (Zw gd he).1)
 have p0:=ZL (show Xp g0 h≠0 by omega);have p1:=ZL (show Xp h k0≠0 by omega);have p2:=ZL (show Xp k0 k1≠0 by omega);refine ⟨_,_,_,_,_,_,_,_,_,⟨p0,p1,p2⟩, ?_,hold x0 v0,hold x1 v1,hold x2 v2⟩;obtain ⟨e1,e2,e3⟩:=cr_pos x0;obtain ⟨e4,e5,e6⟩:=cr_pos x1;obtain ⟨e7,e8,e9⟩:=cr_pos x2;rw [e1,e2,e3,e4,e5,e6,e7,e8,e9,det_cross];change Ya g0 h k0*Ya h k0 k1≠0
 have:=ek0 h hh k1 hk1 x1 x2;exact Int.mul_ne_zero (by omega) (by omega)
theorem halfOf_pts {a b c:Int} {g:Half} (h:XO a b c=some g) {x y d:Int}:Yp g x y d ↔ a*x+b*y<=c*d:=by
 have hok:=halfOf_ok h;unfold XO at h;split at h
 ·cases h
 ·rename_i h0
  split at h
  ·injection h with h
   obtain ⟨e1,e2,e3⟩:=@gcdAll_dvd a b c;have g0:((Xh [a,b,c]:Nat):Int)≠0:=by
    intro e;exact h0 (.inl (by omega))
   rw [<- h];unfold Yp redHalf;simp only;have gp:=Int.natCast_nonneg (Xh [a,b,c]);clear h h0 hok;generalize ((Xh [a,b,c]:Nat):Int)=g at *;obtain ⟨p,rfl⟩:=e1;obtain ⟨q,rfl⟩:=e2;obtain ⟨r,rfl⟩:=e3;rw [Int.mul_tdiv_cancel_left _ g0,Int.mul_tdiv_cancel_left _ g0,Int.mul_tdiv_cancel_left _ g0];have e:g*p*x+g*q*y=g*(p*x+q*y):=by rw [Int.mul_add,Int.mul_assoc,Int.mul_assoc]
   rw [e,Int.mul_assoc];constructor
   ·intro k;exact Int.mul_le_mul_of_nonneg_left k gp
   ·intro k;exact Int.le_of_mul_le_mul_left k (by omega)
  ·cases h
theorem meetR_pts {hs:List Half} (hok:∀ h∈hs,Xq h=true) (hne:Yk (Xk hs)≠[]) {x y d:Int} (hd:0<=d):InP (Yk (Xk hs)) x y d ↔ InP Yj x y d/\InP hs x y d:=by
 unfold Yk at hne ⊢;split at hne
 ·rename_i h
  rw [if_pos h,<- inP_app];exact meet_holds hok hne hd
 ·exact absurd rfl hne
theorem movL_mem {f:Half->Option Half} {p:List Half} (ha:Ko f p=true) {g:Half}:g∈movL f p ↔ ∃ h∈p,f h=some g:=by
 unfold movL;rw [List.mem_map];unfold Ko at ha;rw [List.all_eq_true] at ha;constructor
 ·rintro ⟨h,hh,rfl⟩;refine ⟨h,hh, ?_⟩;obtain ⟨v,e⟩:=Option.isSome_iff_exists.1 (ha h hh);rw [e];rfl
 ·rintro ⟨h,hh,e⟩;exact ⟨h,hh,by rw [e];rfl⟩
theorem movR_pts {f:Half->Option Half} {p:List Half} (hf:∀ h∈p,∀ g,f h=some g->Xq g=true) (hne:movR f p≠[]):p≠[]/\Ko f p=true/\∀ {x y d:Int},0<=d->(InP (movR f p) x y d ↔ InP Yj x y d/\∀ h∈p,∀ g,f h=some g->Yp g x y d):=by
 have hp:p.length≠0:=λ h=>hne (mov_void h).2;have ha:Ko f p=true:=by
  cases e:Ko f p
  ·exfalso;apply hne;unfold movR;rw [if_pos (.inr e)]
  ·rfl
 obtain ⟨_,e⟩:=mov_all hp ha;rw [e] at hne ⊢;refine ⟨by rintro rfl;exact hp rfl,ha,λ hd=>?_⟩;rw [meetR_pts (movL_ok hf ha) hne hd];refine and_congr_right λ _=>?_;constructor
 ·intro h k hk g hg;exact h g ((movL_mem ha).2 ⟨k,hk,hg⟩)
 ·intro h g hg;obtain ⟨k,hk,e⟩:=(movL_mem ha).1 hg;exact h k hk g e
theorem ero_pts {w:List Half} {h g:Half} (_:Xc w=true) (_:w≠[]) (_:Xq h=true) (e:KC w h=some g) {x y d:Int}:Yp g x y d ↔ (h.a*x+h.b*y)*(J4 w h.a h.b).d<=(h.c*(J4 w h.a h.b).d-(J4 w h.a h.b).n)*d:=by
 unfold KC at e;rw [halfOf_pts e,Int.add_mul,Int.mul_right_comm h.a,Int.mul_right_comm h.b]
theorem ero_add {w p:List Half} (hw:Xc w=true) (hwn:w≠[]) (hp:Xc p=true) (hne:movR (KC w) p≠[]) {x y d u v e:Int} (hd:0<d) (he:0<e) (hz:InP (movR (KC w) p) x y d) (ht:InP w u v e):InP p (x*e+u*d) (y*e+v*d) (d*e):=by
 obtain ⟨_,ha,hi⟩:=movR_pts (λ _ _ _ e=>eroH_ok e) hne;have hz2:=((hi (by omega)).1 hz).2;intro h hh;have hk:=Z1 hp h hh;obtain ⟨A,B,_⟩:=Zm.1 hk;have R:=supR hw hwn A B;have D:=R.d;have s1:=sup_ge hw hwn A B he ht;unfold Ko at ha;rw [List.all_eq_true] at ha;obtain ⟨g,eg⟩:=Option.isSome_iff_exists.1 (ha h hh);have s2:=(ero_pts hw hwn hk eg).1 (hz2 h hh g eg);generalize (J4 w h.a h.b).d=dd at *;generalize (J4 w h.a h.b).n=nn at *;unfold Yp;refine le_cancel (k:=dd) (by omega) ?_;have m1:=Int.mul_le_mul_of_nonneg_right s2 (show 0<=e by omega);have m2:=Int.mul_le_mul_of_nonneg_right s1 (show 0<=d by omega);have e1:(h.a*(x*e+u*d)+h.b*(y*e+v*d))*dd=(h.a*x+h.b*y)*dd*e+(h.a*u+h.b*v)*dd*d:=by grind
 have e2:h.c*(d*e)*dd=(h.c*dd-nn)*d*e+nn*e*d:=by grind
 omega
end Go.Proofs.YtbekjpkcicjcgabGreat
