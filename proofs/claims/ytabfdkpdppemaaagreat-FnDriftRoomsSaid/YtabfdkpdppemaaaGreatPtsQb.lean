/-
 Regions as sets of points: parts, eroded regions, regions that are moved by a map.
 Conditions: valid regions.
-/
import Derived.Test.YtabfdkpdppemaaaGreatGrXa
import Derived.Test.YtabfdkpdppemaaaGreatDrift
namespace Go.Proofs.YtabfdkpdppemaaaGreat
open Go.RowKit
def InP (p:List Half) (x y d:Int):Prop:=∀ h∈p,YO h x y d
theorem le_cancel {a b k:Int} (hk:0<k) (h:a*k<=b*k):a<=b:=Int.le_of_mul_le_mul_right h hk
theorem holdsH_pt {h:Half} {s:Xz}:holdsH s h=true ↔ YO h s.x s.y s.d:=by
 unfold holdsH valS YO;rw [decide_eq_true_eq];omega
theorem holdsB_pt {p:List Half} {s:Xz}:Zu p s=true ↔ p≠[]/\InP p s.x s.y s.d:=by
 unfold Zu InP;rw [Bool.and_eq_true,List.all_eq_true];constructor
 ·rintro ⟨h1,h2⟩;exact ⟨by rintro rfl;simp at h1,λ h hh=>holdsH_pt.1 (h2 h hh)⟩
 ·rintro ⟨h1,h2⟩;refine ⟨?_,λ h hh=>holdsH_pt.2 (h2 h hh)⟩;cases p with
  | nil=>exact absurd rfl h1
  | cons a l=>simp
theorem inP_app {p q:List Half} {x y d:Int}:InP (p++q) x y d ↔ InP p x y d/\InP q x y d :=
 ⟨λ h=>⟨λ g hg=>h g (List.mem_append.2 (.inl hg)),λ g hg=>h g (List.mem_append.2 (.inr hg))⟩,λ h g hg=>(List.mem_append.1 hg).elim (h.1 g) (h.2 g)⟩
theorem corner_in {p:List Half} (hr:Xl p=true) {s:Xz} (hs:s∈X7 p):InP p s.x s.y s.d/\XA s=true:=by
 obtain ⟨i,hi,rfl⟩:=List.getElem_of_mem hs;have hi':i<p.length:=by rw [Y6] at hi;exact hi
 have C:=JJ hr hi';rw [corners_at p i hi'];exact ⟨C.ins,C.ok⟩
theorem spot_pos {s:Xz} (h:XA s=true):1<=s.d:=(ZQ.1 h).1.1
theorem pts_within {p q:List Half} (hp:Xl p=true) (hq:p≠[]->q≠[]) (h:p≠[]->∀ x y d,0<d->InP p x y d->InP q x y d):withinB p q=true:=by
 unfold withinB;rw [List.all_eq_true];intro s hs;have hne:p≠[]:=by rintro rfl;simp [X7] at hs
 obtain ⟨h1,h2⟩:=corner_in hp hs;have:=spot_pos h2;exact holdsB_pt.2 ⟨hq hne,h hne _ _ _ (by omega) h1⟩
theorem reg_frame {p:List Half} (hr:Xl p=true) (hne:p≠[]) {x y d:Int} (hd:0<=d) (h:InP p x y d):InP Yh x y d:=by
 obtain ⟨_,hok,hm⟩:=(reg_iff hr).resolve_left hne;have hne2:Xx (Xp p)≠[]:=by rw [hm];exact hne
 exact (inP_app.1 ((meet_holds hok hne2 hd).1 (by rw [hm];exact h))).1
theorem halfOf_pts {a b c:Int} {g:Half} (h:YN a b c=some g) {x y d:Int}:YO g x y d ↔ a*x+b*y<=c*d:=by
 have hok:=halfOf_ok h;unfold YN at h;split at h
 ·cases h
 ·rename_i h0
  split at h
  ·injection h with h
   obtain ⟨e1,e2,e3⟩:=@JO a b c;have g0:((Xk [a,b,c]:Nat):Int)≠0:=by
    intro e;exact h0 (.inl (by omega))
   rw [<- h];unfold YO redHalf;simp only;have gp:=Int.natCast_nonneg (Xk [a,b,c]);clear h h0 hok;generalize ((Xk [a,b,c]:Nat):Int)=g at *;obtain ⟨p,rfl⟩:=e1;obtain ⟨q,rfl⟩:=e2;obtain ⟨r,rfl⟩:=e3;rw [Int.mul_tdiv_cancel_left _ g0,Int.mul_tdiv_cancel_left _ g0,Int.mul_tdiv_cancel_left _ g0];have e:g*p*x+g*q*y=g*(p*x+q*y):=by rw [Int.mul_add,Int.mul_assoc,Int.mul_assoc]
   rw [e,Int.mul_assoc];constructor
   ·intro k;exact Int.mul_le_mul_of_nonneg_left k gp
   ·intro k;exact Int.le_of_mul_le_mul_left k (by omega)
  ·cases h
theorem meetR_pts {hs:List Half} (hok:∀ h∈hs,Xn h=true) (hne:Zg (Xp hs)≠[]) {x y d:Int} (hd:0<=d):InP (Zg (Xp hs)) x y d ↔ InP Yh x y d/\InP hs x y d:=by
 unfold Zg at hne ⊢;split at hne
 ·rename_i h
  rw [if_pos h,<- inP_app];exact meet_holds hok hne hd
 ·exact absurd rfl hne
theorem movL_mem {f:Half->Option Half} {p:List Half} (ha:Z8 f p=true) {g:Half}:g∈movL f p ↔ ∃ h∈p,f h=some g:=by
 unfold movL;rw [List.mem_map];unfold Z8 at ha;rw [List.all_eq_true] at ha;constructor
 ·rintro ⟨h,hh,rfl⟩;refine ⟨h,hh, ?_⟩;obtain ⟨v,e⟩:=Option.isSome_iff_exists.1 (ha h hh);rw [e];rfl
 ·rintro ⟨h,hh,e⟩;exact ⟨h,hh,by rw [e];rfl⟩
theorem movR_pts {f:Half->Option Half} {p:List Half} (hf:∀ h∈p,∀ g,f h=some g->Xn g=true) (hne:KF f p≠[]):p≠[]/\Z8 f p=true/\∀ {x y d:Int},0<=d->(InP (KF f p) x y d ↔ InP Yh x y d/\∀ h∈p,∀ g,f h=some g->YO g x y d):=by
 have hp:p.length≠0:=λ h=>hne (mov_void h).2;have ha:Z8 f p=true:=by
  cases e:Z8 f p
  ·exfalso;apply hne;unfold KF;rw [if_pos (.inr e)]
  ·rfl
 obtain ⟨_,e⟩:=mov_all hp ha;rw [e] at hne ⊢;refine ⟨by rintro rfl;exact hp rfl,ha,λ hd=>?_⟩;rw [meetR_pts (movL_ok hf ha) hne hd];refine and_congr_right λ _=>?_;constructor
 ·intro h k hk g hg;exact h g ((movL_mem ha).2 ⟨k,hk,hg⟩)
 ·intro h g hg;obtain ⟨k,hk,e⟩:=(movL_mem ha).1 hg;exact h k hk g e
theorem ero_pts {w:List Half} {h g:Half} (hw:Xl w=true) (hwn:w≠[]) (hh:Xn h=true) (e:Zj w h=some g) {x y d:Int}:YO g x y d ↔ (h.a*x+h.b*y)*(Jz w h.a h.b).d<=(h.c*(Jz w h.a h.b).d-(Jz w h.a h.b).n)*d:=by
 unfold Zj at e;rw [halfOf_pts e,Int.add_mul,Int.mul_right_comm h.a,Int.mul_right_comm h.b]
theorem ero_add {w p:List Half} (hw:Xl w=true) (hwn:w≠[]) (hp:Xl p=true) (hne:KF (Zj w) p≠[]) {x y d u v e:Int} (hd:0<d) (he:0<e) (hz:InP (KF (Zj w) p) x y d) (ht:InP w u v e):InP p (x*e+u*d) (y*e+v*d) (d*e):=by
 obtain ⟨_,ha,hi⟩:=movR_pts (λ _ _ _ e=>eroH_ok e) hne;have hz2:=((hi (by omega)).1 hz).2;intro h hh;have hk:=Km hp h hh;obtain ⟨A,B,_⟩:=Ze.1 hk;have R:=supR hw hwn A B;have D:=R.d;have s1:=sup_ge hw hwn A B he ht;unfold Z8 at ha;rw [List.all_eq_true] at ha;obtain ⟨g,eg⟩:=Option.isSome_iff_exists.1 (ha h hh);have s2:=(ero_pts hw hwn hk eg).1 (hz2 h hh g eg);generalize (Jz w h.a h.b).d=dd at *;generalize (Jz w h.a h.b).n=nn at *;unfold YO;refine le_cancel (k:=dd) (by omega) ?_;have m1:=Int.mul_le_mul_of_nonneg_right s2 (show 0<=e by omega);have m2:=Int.mul_le_mul_of_nonneg_right s1 (show 0<=d by omega);have e1:(h.a*(x*e+u*d)+h.b*(y*e+v*d))*dd=(h.a*x+h.b*y)*dd*e+(h.a*u+h.b*v)*dd*d:=by grind
 have e2:h.c*(d*e)*dd=(h.c*dd-nn)*d*e+nn*e*d:=by grind
 omega
end Go.Proofs.YtabfdkpdppemaaaGreat
