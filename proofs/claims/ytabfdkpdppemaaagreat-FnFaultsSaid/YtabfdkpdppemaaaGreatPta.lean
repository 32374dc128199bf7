/-
 The inputs that are admitted at a state, as fractions; whole boxes of states; the region before a step.
 Conditions: valid rooms, regions and states.
-/
import Derived.Test.YtabfdkpdppemaaaGreatDrw
set_option maxHeartbeats 3000000
set_option maxRecDepth 100000
namespace Go.Proofs.YtabfdkpdppemaaaGreat
open Go.RowKit
def Btw (w:YY) (n e:Int):Prop:=w.low.n*e<=n*w.low.d/\n*w.high.d<=w.high.n*e
theorem cmp_le {r s:Ya} (hr:Xm r=true) (hs:Xm s=true):XM r s<=0 ↔ r.n*s.d<=s.n*r.d:=by
 rw [cmp_def hr hs,gsgn_le];omega
theorem rat_pos {r:Ya} (h:Xm r=true):1<=r.d:=(ratioOk_bd h).1.1
theorem spanOk_mk {w:YY} (h1:Xm w.low=true) (h2:Xm w.high=true) (h:w.low.n*w.high.d<=w.high.n*w.low.d):XO w=true:=by
 unfold XO;rw [h1,h2,decide_eq_true ((cmp_le h1 h2).2 h)];rfl
theorem btw_ok {w:YY} {n e:Int} (h1:Xm w.low=true) (h2:Xm w.high=true) (he:0<e) (h:Btw w n e):XO w=true :=
 spanOk_mk h1 h2 (KL (a:=w.low.n) (b:=w.low.d) (c:=n) (d:=e) (e:=w.high.n) (f:=w.high.d) he (by have:=rat_pos h1;omega) (by have:=rat_pos h2;omega) h.1 h.2)
theorem maxR_le {a b:Ya} (ha:Xm a=true) (hb:Xm b=true) {n e:Int} (he:0<e):(YM a b).n*e<=n*(YM a b).d ↔ a.n*e<=n*a.d/\b.n*e<=n*b.d:=by
 have pa:=rat_pos ha;have pb:=rat_pos hb;unfold YM;rw [if_pos ⟨ha,hb⟩];split
 ·rename_i h
  rw [cmp_def ha hb,gsgn_ge] at h;exact ⟨λ k=>⟨k,KL (a:=b.n) (b:=b.d) (c:=a.n) (d:=a.d) (e:=n) (f:=e) (by omega) (by omega) (by omega) (by omega) k⟩,λ k=>k.1⟩
 ·rename_i h
  rw [cmp_def ha hb,gsgn_ge] at h;exact ⟨λ k=>⟨KL (a:=a.n) (b:=a.d) (c:=b.n) (d:=b.d) (e:=n) (f:=e) (by omega) (by omega) (by omega) (by omega) k,k⟩,λ k=>k.2⟩
theorem minR_ge {a b:Ya} (ha:Xm a=true) (hb:Xm b=true) {n e:Int} (he:0<e):n*(YL a b).d<=(YL a b).n*e ↔ n*a.d<=a.n*e/\n*b.d<=b.n*e:=by
 have pa:=rat_pos ha;have pb:=rat_pos hb;unfold YL;rw [if_pos ⟨ha,hb⟩];split
 ·rename_i h
  rw [cmp_def ha hb,gsgn_le] at h;exact ⟨λ k=>⟨k,KL (a:=n) (b:=e) (c:=a.n) (d:=a.d) (e:=b.n) (f:=b.d) (by omega) (by omega) (by omega) k (by omega)⟩,λ k=>k.1⟩
 ·rename_i h
  rw [cmp_def ha hb,gsgn_le] at h;exact ⟨λ k=>⟨KL (a:=n) (b:=e) (c:=b.n) (d:=b.d) (e:=a.n) (f:=a.d) (by omega) (by omega) (by omega) k (by omega),k⟩,λ k=>k.2⟩
theorem of_le {t d n e:Int} (ht : -1000000000000000000<=t/\t<=1000000000000000000) (hd:1<=d/\d<=1000000000000000):Xm (X6 t d)=true/\((X6 t d).n*e<=n*(X6 t d).d ↔ t*e<=n*d)/\(n*(X6 t d).d<=(X6 t d).n*e ↔ n*d<=t*e):=by
 obtain ⟨ok,k,hk,e1,e2⟩:=ZZ ht hd;generalize (X6 t d).n=N at *;generalize (X6 t d).d=D at *;have a1:t*e=k*(N*e):=by rw [e1,Int.mul_assoc]
 have a2:n*d=k*(n*D):=by rw [e2,Int.mul_left_comm]
 refine ⟨ok, ?_, ?_⟩
 ·rw [a1,a2];exact ⟨λ h=>Int.mul_le_mul_of_nonneg_left h (by omega),λ h=>Int.le_of_mul_le_mul_left h hk⟩
 ·rw [a1,a2];exact ⟨λ h=>Int.mul_le_mul_of_nonneg_left h (by omega),λ h=>Int.le_of_mul_le_mul_left h hk⟩
def AdmH (r:Xv) (s:XJ) (h:Half) (n e:Int):Prop:=Ze r h*n*Ym r s<=topA r s h*e
theorem admStep_btw {r:Xv} {s:XJ} {h:Half} (M:MapB r s) (P:AdmP r s h) {v:YY} (h1:Xm v.low=true) (h2:Xm v.high=true) :
 (∀ w,Ky r s v h=some w->(Xm w.low=true/\Xm w.high=true)/\∀ n e,0<e->(Btw w n e ↔ Btw v n e/\AdmH r s h n e))/\((Ze r h=0->0<=topA r s h)->∃ w,Ky r s v h=some w):=by
 unfold Ky;split
 ·rename_i hn
  obtain ⟨t,d⟩:=adm_high P M hn;refine ⟨λ w hw=>?_,λ _=>⟨_,rfl⟩⟩;injection hw with hw
  have o:=(of_le (n:=0) (e:=1) t d).1;subst hw;refine ⟨⟨h1,ratioMin_ok h2 o⟩,λ n e he=>?_⟩;unfold Btw AdmH;simp only;rw [minR_ge h2 o he,(of_le (n:=n) (e:=e) t d).2.2];have e1:Ze r h*n*Ym r s=n*(Ym r s*Ze r h):=by grind
  rw [e1];exact ⟨λ k=>⟨⟨k.1,k.2.1⟩,k.2.2⟩,λ k=>⟨k.1.1,k.1.2,k.2⟩⟩
 ·rename_i hn1
  split
  ·rename_i hn
   obtain ⟨t,d⟩:=adm_low P M hn;refine ⟨λ w hw=>?_,λ _=>⟨_,rfl⟩⟩;injection hw with hw
   have o:=(of_le (n:=0) (e:=1) t d).1;subst hw;refine ⟨⟨ratioMax_ok h1 o,h2⟩,λ n e he=>?_⟩;unfold Btw AdmH;simp only;rw [maxR_le h1 o he,(of_le (n:=n) (e:=e) t d).2.1];have e1:n*(-(Ym r s)*Ze r h) = -(Ze r h*n*Ym r s):=by grind
   have e2 : -(topA r s h)*e = -(topA r s h*e):=Int.neg_mul _ _;rw [e1,e2];exact ⟨λ k=>⟨⟨k.1.1,k.2⟩,by omega⟩,λ k=>⟨⟨k.1.1,by omega⟩,k.1.2⟩⟩
  ·rename_i hn2
   have h0:Ze r h=0:=by omega
   split
   ·rename_i ht
    exact ⟨λ w hw=>(by cases hw),λ k=>absurd (k h0) (by omega)⟩
   ·rename_i ht
    refine ⟨λ w hw=>?_,λ _=>⟨_,rfl⟩⟩;injection hw with hw
    subst hw;refine ⟨⟨h1,h2⟩,λ n e he=>?_⟩;unfold AdmH;rw [h0,Int.zero_mul,Int.zero_mul];exact ⟨λ k=>⟨k,Int.mul_nonneg (by omega) (by omega)⟩,λ k=>k.1⟩
theorem adm_fold {r:Xv} {s:XJ} (B:RoomB r) (M:MapB r s):∀ (l:List Half) (v:YY),(∀ h∈l,Xy h=true)->Xm v.low=true->Xm v.high=true ->
 (∀ w,l.foldl (λ o h=>o.bind λ w=>Ky r s w h) (some v)=some w->(Xm w.low=true/\Xm w.high=true)/\∀ n e,0<e->(Btw w n e ↔ Btw v n e/\∀ h∈l,AdmH r s h n e))/\((∀ h∈l,Ze r h=0->0<=topA r s h)->∃ w,l.foldl (λ o h=>o.bind λ w=>Ky r s w h) (some v)=some w)
 | [],v,_,h1,h2=>by
  refine ⟨λ w hw=>?_,λ _=>⟨v,rfl⟩⟩;injection hw with hw
  subst hw;exact ⟨⟨h1,h2⟩,λ n e _=>⟨λ k=>⟨k,λ h hh=>by cases hh⟩,λ k=>k.1⟩⟩
 | h :: l,v,hl,h1,h2=>by
  obtain ⟨S1,S2⟩:=admStep_btw M (admP B M (hl h (List.mem_cons_self ..))) h1 h2;have fold_none:∀ l:List Half,l.foldl (λ o h=>o.bind λ w=>Ky r s w h) (none:Option YY)=none:=by
   intro l;induction l with
   | nil=>rfl
   | cons x t ih=>exact ih
  constructor
  ·intro w hw;rw [List.foldl_cons,Option.bind_some] at hw;cases e:Ky r s v h with
   | none=>rw [e,fold_none] at hw;cases hw
   | some u =>
    rw [e] at hw;obtain ⟨⟨u1,u2⟩,ub⟩:=S1 u e;obtain ⟨wo,wb⟩:=(adm_fold B M l u (λ k hk=>hl k (List.mem_cons_of_mem _ hk)) u1 u2).1 w hw;refine ⟨wo,λ n e he=>?_⟩;rw [wb n e he,ub n e he];constructor
    ·rintro ⟨⟨k1,k2⟩,k3⟩;refine ⟨k1,λ g hg=>?_⟩;rcases List.mem_cons.1 hg with rfl|hg
     ·exact k2
     ·exact k3 g hg
    ·rintro ⟨k1,k2⟩;exact ⟨⟨k1,k2 h (List.mem_cons_self ..)⟩,λ g hg=>k2 g (List.mem_cons_of_mem _ hg)⟩
  ·intro h0;obtain ⟨u,e⟩:=S2 (h0 h (List.mem_cons_self ..));obtain ⟨⟨u1,u2⟩,_⟩:=S1 u e;rw [List.foldl_cons,Option.bind_some,e];exact (adm_fold B M l u (λ k hk=>hl k (List.mem_cons_of_mem _ hk)) u1 u2).2 (λ k hk=>h0 k (List.mem_cons_of_mem _ hk))
structure AdmS (r:Xv) (E:List Half) (s:XJ) (w:YY):Prop where
 ok:XO w=true
 btw:∀ n e,0<e->(Btw w n e ↔ (r.low*e<=n/\n<=r.high*e)/\∀ h∈E,AdmH r s h n e)
theorem btw0 {r:Xv} {n e:Int}:Btw ⟨⟨r.low,1⟩,⟨r.high,1⟩⟩ n e ↔ r.low*e<=n/\n<=r.high*e:=by
 unfold Btw;simp only [Int.mul_one]
theorem admit_btw {r:Xv} {E:List Half} {s:XJ} (hr:XK r=true) (hs:Xt s=true) (hE:∀ h∈E,Xy h=true) {w:YY} (h:Yz r E s=some w):AdmS r E s w:=by
 have B:=J9 hr;have ok:=JE h;unfold Yz at h;split at h
 ·cases h
 ·rename_i hd
  have M:=mapB B hs (by omega);have F:=(adm_fold B M E ⟨⟨r.low,1⟩,⟨r.high,1⟩⟩ hE (one_ok B.low) (one_ok ⟨by have:=B.low;have:=B.high;omega,by have:=B.high;omega⟩)).1;cases e:admL r s E with
  | none=>rw [e] at h;cases h
  | some v =>
   rw [e,Option.bind_some] at h;split at h
   ·injection h with h
    subst h;refine ⟨ok,λ n e' he=>?_⟩;rw [(F v e).2 n e' he,btw0]
   ·cases h
theorem admit_some {r:Xv} {E:List Half} {s:XJ} (hr:XK r=true) (hs:Xt s=true) (hd:s.d<=100000) (hE:∀ h∈E,Xy h=true) {n e:Int} (he:0<e) (h1:r.low*e<=n) (h2:n<=r.high*e) (hA:∀ h∈E,AdmH r s h n e):∃ w,Yz r E s=some w/\Btw w n e:=by
 have B:=J9 hr;have M:=mapB B hs hd;have F:=adm_fold B M E ⟨⟨r.low,1⟩,⟨r.high,1⟩⟩ hE (one_ok B.low) (one_ok ⟨by have:=B.low;have:=B.high;omega,by have:=B.high;omega⟩);obtain ⟨w,hw⟩:=F.2 (λ h hh h0=>by
  have:=hA h hh;unfold AdmH at this;rw [h0,Int.zero_mul,Int.zero_mul] at this;exact gmn (a:=e) (by rw [Int.mul_comm];exact this) he)
 obtain ⟨⟨o1,o2⟩,hb⟩:=F.1 w hw;have hbt:Btw w n e:=(hb n e he).2 ⟨btw0.2 ⟨h1,h2⟩,hA⟩;refine ⟨w, ?_,hbt⟩;unfold Yz;rw [if_neg (by omega),show admL r s E=some w from hw,Option.bind_some,if_pos (btw_ok o1 o2 he hbt)]
theorem admH_iff {r:Xv} {s:XJ} {h:Half} {n e:Int}:AdmH r s h n e ↔ YA h (Jk r s*e+r.bx*n*Ym r s) (Jr r s*e+r.by_*n*Ym r s) (Ym r s*e):=by
 unfold AdmH YA topA Ze;have e1:h.a*(Jk r s*e+r.bx*n*Ym r s)+h.b*(Jr r s*e+r.by_*n*Ym r s)=(h.a*r.bx+h.b*r.by_)*n*Ym r s+(h.a*Jk r s+h.b*Jr r s)*e:=by grind
 have e2:(h.c*Ym r s-h.a*Jk r s-h.b*Jr r s)*e=h.c*(Ym r s*e)-(h.a*Jk r s+h.b*Jr r s)*e:=by grind
 omega
theorem pre_admit {r:Xv} {p:List Half} {s:XJ} (hr:XK r=true) (hb:0<r.bx) (hne:XW r p≠[]) (hs:Xt s=true) (hd:s.d<=100000) (hi:J5 (XW r p) s.x s.y s.d):∃ w,Yz r (ZY r p) s=some w:=by
 have P:=pre_pts hr hb hne;have sd:=JG hs;obtain ⟨_,_,m,e,he,h1,h2,h3⟩:=(P.pts (x:=s.x) (y:=s.y) (d:=s.d) (by omega)).1 hi;obtain ⟨w,hw,_⟩:=admit_some hr hs hd (Zo (preE_ok r p)) he h1 h2 (λ h hh=>admH_iff.2 (h3 h hh));exact ⟨w,hw⟩
theorem pre_rob {r:Xv} {p:List Half} (hr:XK r=true) (hb:0<r.bx) (hp:Xe p=true) (ok:Za r p=true) (hne:XW r p≠[]):Yv r p=true/\JQ r p=ZY r p:=by
 have P:=pre_pts hr hb hne;obtain ⟨e1,e2⟩:=rp_eq hr hp;have hpn:p.length≠0:=λ e=>P.e (mov_void e).2;unfold Za preA at ok;simp only [Bool.and_eq_true] at ok;refine ⟨?_,e2⟩;unfold Yv;rw [e1,e2,ok.1.1.1,decide_eq_false hpn,decide_eq_false (λ e=>P.e (List.length_eq_zero_iff.1 e))];rfl
theorem pre_admAt {r:Xv} {p:List Half} {s:XJ} (hr:XK r=true) (hb:0<r.bx) (hp:Xe p=true) (ok:Za r p=true) (hne:XW r p≠[]) (hs:Xt s=true) (hd:s.d<=100000) (hi:J5 (XW r p) s.x s.y s.d):∃ w,XG r p s=some w:=by
 obtain ⟨h1,h2⟩:=pre_rob hr hb hp ok hne;obtain ⟨w,hw⟩:=pre_admit hr hb hne hs hd hi;exact ⟨w,by unfold XG;rw [if_pos ⟨h1,hs⟩,h2];exact hw⟩
theorem wgcd (x y:Int):Xu [x,y,1]=1:=by
 obtain ⟨_,_,h⟩:=@gcdAll_dvd x y 1;have:=Int.natAbs_dvd_natAbs.2 h;simp at this;exact this
theorem wspot_ok {x y:Int} (hx : -1000<=x/\x<=1000) (hy : -1000<=y/\y<=1000):Xt ⟨x,y,1⟩=true:=by
 unfold Xt;rw [wgcd];simp [Z7];omega
theorem admAt_parts {r:Xv} {p:List Half} {s:XJ} {v:YY} (h:XG r p s=some v):Yv r p=true/\Xt s=true/\Yz r (JQ r p) s=some v:=by
 unfold XG at h;split at h
 ·rename_i k
  exact ⟨k.1,k.2,h⟩
 ·cases h
section
variable {a b:Bool}
theorem bp_nf (h:a=true):(!a)=false:=by rw [h];rfl
end
structure RoomHi (a:YO) (n:Nat):Prop where
 map:∀ p,a.map.A=some p->p.block<n
 noise:∀ p,a.noise.A=some p->p.block<n
 limits:∀ p,a.limits.A=some p->p.block<n
theorem Yu.hi {w:World} {base:Nat} {x:Xv} {a:YO} (h:Yu w base x a):RoomHi a w.heap.size:=⟨λ p hp=>(h.map.blk p hp).2,λ p hp=>(h.noise.blk p hp).2,λ p hp=>(h.limits.blk p hp).2⟩
theorem reg_in {p:List Half} (h:Xe p=true):∀ g∈p,g.In:=λ g hg=>hIn (JR (Zo h g hg))
def Y9 (u:Ya):Bool:=Xm u&&Z7 u.n (-1000*u.d) (1000*u.d)
def nxtX (r:Xv) (s:XJ) (u:Ya) (v:XJ):Int:=(Jk r s*u.d+r.bx*u.n*Ym r s)*v.d+v.x*(Ym r s*u.d)
def nxtY (r:Xv) (s:XJ) (u:Ya) (v:XJ):Int:=(Jr r s*u.d+r.by_*u.n*Ym r s)*v.d+v.y*(Ym r s*u.d)
def nxtD (r:Xv) (s:XJ) (u:Ya) (v:XJ):Int:=Ym r s*u.d*v.d
def hasS (p:List Half) (s:XJ):Bool:=!decide (p.length=0)&&Xt s&&Xe p&&YU p s
variable {r:Xv} {p:List Half} {s:XJ} {ws:List Int} {ns:List XJ}
end Go.Proofs.YtabfdkpdppemaaaGreat
namespace Go.Proofs.YtabfdkpdppemaaaGreat
open Go.RowKit
theorem XH.kpT {α:Type} {T sz base n c g:Nat} {enc:α->List Value} {w w':World} {A:Option Addr} {xs:List α} (h:XH T sz enc w base (.slice A n c) xs) (k:Kp [g] w w') (hA:∀ p,A=some p->p.block≠g):XH T sz enc w' base (.slice A n c) xs:=by
 obtain ⟨A',cap,e,h1,h2⟩:=h;refine ⟨A',cap,e,h1, ?_⟩;rcases h2 with h2|⟨q,cap',cur,hv,hg,hh,r⟩
 ·exact .inl h2
 ·have hA2:A=some ⟨q,0,none⟩:=by injection hv
  exact .inr ⟨q,cap',cur,hv,hg,(k.block q (X5 hh) (by simp only [List.mem_singleton];exact hA _ hA2)).trans hh,r⟩
def kpF (r:Xv):Nat->List Half->Option (List Half)
 | 0,_=>none
 | n+1,p=>if (Za r p&&mrOk p (XW r p))=true then (if mrR p (XW r p)=p then some p else kpF r n (mrR p (XW r p))) else none
def Yb (r:Xv):Option (List Half):=if XK r=true then kpF r 12 r.limits else none
theorem mr_pts {p q:List Half} (hp:Xe p=true) (hq:Xe q=true) (hne:mrR p q≠[]):p≠[]/\q≠[]/\∀ {x y d:Int},0<d->(J5 (mrR p q) x y d ↔ J5 p x y d/\J5 q x y d):=by
 unfold mrR at hne ⊢;split at hne
 ·rename_i h
  rw [if_pos h];have hpn:p≠[]:=λ e=>h.2.1 (by rw [e];rfl);have hqn:q≠[]:=λ e=>h.2.2 (by rw [e];rfl);refine ⟨hpn,hqn,λ{x y d} hd=>?_⟩;rw [meetR_pts (app_ok (Zo hp) (Zo hq)) hne (by omega),inP_app];exact ⟨λ k=>k.2,λ k=>⟨reg_frame hp hpn (by omega) k.1,k⟩⟩
 ·exact absurd rfl hne
theorem within_refl {p:List Half} (hp:Xe p=true):Yg p p=true:=pts_within hp (λ h=>h) (λ _ _ _ _ _ h=>h)
theorem within_trans {p q k:List Half} (hp:Xe p=true) (hq:Xe q=true) (hk:Xe k=true) (h1:Yg p q=true) (h2:Yg q k=true):Yg p k=true:=by
 by_cases hne:p=[]
 ·rw [hne];rfl
 ·obtain ⟨a1,a2⟩:=within_pts hp hne hq h1;obtain ⟨b1,b2⟩:=within_pts hq a1 hk h2;exact pts_within hp (λ _=>b1) (λ _ x y d hd hz=>b2 x y d hd (a2 x y d hd hz))
theorem mr_within {p q:List Half} (hp:Xe p=true) (hq:Xe q=true):Yg (mrR p q) p=true/\Yg (mrR p q) q=true:=by
 have ok:=mrR_ok hp hq;by_cases hne:mrR p q=[]
 ·rw [hne];exact ⟨rfl,rfl⟩
 ·obtain ⟨h1,h2,h3⟩:=mr_pts hp hq hne;exact ⟨pts_within ok (λ _=>h1) (λ _ x y d hd hz=>((h3 hd).1 hz).1),pts_within ok (λ _=>h2) (λ _ x y d hd hz=>((h3 hd).1 hz).2)⟩
theorem kpF_kept {r:Xv} (hr:XK r=true):∀ (n:Nat) (p:List Half),Xe p=true->Yg p r.limits=true->∀ q,kpF r n p=some q->KW r q=true/\Xe q=true
 | 0,_,_,_,_,e=>by cases e
 | n+1,p,hp,hw,q,e=>by
  have hq:=Ji r p;have hm:=mrR_ok hp hq;obtain ⟨w1,w2⟩:=mr_within hp hq;rw [kpF] at e;split at e
  ·rename_i h
   split at e
   ·rename_i h2
    injection e with e
    subst e;rw [h2] at w2;refine ⟨?_,hp⟩;unfold KW;simp only [Bool.and_eq_true] at h;rw [hr,hp,hw,h.1,w2];rfl
   ·exact kpF_kept hr n _ hm (within_trans hm hp (Je hr).limits w1 hw) q e
  ·cases e
theorem kpO_kept {r:Xv} {q:List Half} (h:Yb r=some q):XK r=true/\KW r q=true/\Xe q=true:=by
 unfold Yb at h;split at h
 ·rename_i hr
  exact ⟨hr,kpF_kept hr 12 _ (Je hr).limits (within_refl (Je hr).limits) q h⟩
 ·cases h
theorem kept_parts {r:Xv} {p:List Half} (h:KW r p=true):XK r=true/\Xe p=true/\Yg p r.limits=true/\Za r p=true/\Yg p (XW r p)=true:=by
 unfold KW at h;simp only [Bool.and_eq_true,Bool.not_eq_true',Bool.or_eq_false_iff,Bool.not_eq_false'] at h;exact ⟨h.1.1.1,h.1.1.2,h.1.2,h.2.1,h.2.2⟩
theorem kept_adm {r:Xv} {p:List Half} (hb:0<r.bx) (h:KW r p=true) {s:XJ} (hs:Xt s=true) (hd:s.d<=100000) (hi:YU p s=true):∃ w,XG r p s=some w:=by
 obtain ⟨hr,hp,_,ok,hw⟩:=kept_parts h;obtain ⟨hne,hz⟩:=holdsB_pt.1 hi;obtain ⟨h1,h2⟩:=within_pts hp hne (Ji r p) hw;have:=JG hs;exact pre_admAt hr hb hp ok h1 hs hd (h2 _ _ _ (by omega) hz)
theorem rok_bd2 {r:Ya} (h:Xm r=true):(-1000000000000000000<=r.n/\r.n<=1000000000000000000)/\1<=r.d/\r.d<=1000000000000000:=by
 obtain ⟨⟨a,b⟩,⟨c,d⟩,_⟩:=KI.1 h;exact ⟨⟨by omega,by omega⟩,by omega,by omega⟩
theorem isDriven_c (u:Ya) (w:World) (hu:u.In) :
 Calls Tryz.prog 199 #[Yc u] w λ x w'=>x=.returned (.bool (Y9 u))/\Below w.heap.size w w':=by
 refine Yp Tryz.func199 rfl (n:=16) Tryz.ntmps199 (by simp) ?_;intro a0 J F ha;have s0:a0.tmps[0]?.getD undef=Yc u:=ha 0 _ rfl;clear ha;have I:=Below.refl w.heap.size w;have M:=Nat.le_refl w.heap.size;refine wp_seq ?_;refine Yf [1,2] [.pointer (some ⟨w.heap.size,0,none⟩),.bool false] [some (.cells [.int .i64 u.n,.int .i64 u.d].toArray 36),none] [0,1] [1,2] [0,1] (by kernel_rfl) (by rw [J];decide) (ec ?_ (ec ?_ .nil)) ?_
 ·intro a w' G hs N Q A;simp [go_sem,G.g rfl s0];rw [hs];exact A
 ·intro a w' G hs N Q A;simp [go_sem];exact A
 intro a1 w2 G K hb hO;replace J:=G.size.trans J;replace F:=G.defers.trans F;have s1:a1.tmps[1]?.getD undef=.pointer (some ⟨w.heap.size,0,none⟩):=K 0 (by decide);have b3:Xn w2 w.heap.size 36 [.int .i64 u.n,.int .i64 u.d]:=hO 0 _ rfl;have hG:=b3.lt;replace I:=Xh I hb;have zw2:=Nat.le_trans M hb.size;replace M:=Nat.le_refl w2.heap.size;clear G K hb hO s0;refine Xi (wp_seq ?_);refine Xj [3,4,5,6,7,8,9,10,11,12,13,14,15,2] [some (Yc u),some (.bool (Xm u)),some (.bool (Xm u)),some ((bif Xm u then (.pointer (some ⟨w.heap.size,0,none⟩):Value) else undef)),some ((bif Xm u then (.int .i64 u.n:Value) else undef)),some ((bif Xm u then (.pointer (some ⟨w.heap.size,1,none⟩):Value) else undef)),some ((bif Xm u then (.int .i64 u.d:Value) else undef)),some ((bif Xm u then (.int .i64 ((-1000)*u.d):Value) else undef)),some ((bif Xm u then (.pointer (some ⟨w.heap.size,1,none⟩):Value) else undef)),some ((bif Xm u then (.int .i64 u.d:Value) else undef)),some ((bif Xm u then (.int .i64 (1000*u.d):Value) else undef)),some ((bif Xm u then (.bool (Z7 u.n ((-1000)*u.d) (1000*u.d)):Value) else undef)),some (.bool (Xm u&&Z7 u.n ((-1000)*u.d) (1000*u.d))),some (.bool (Xm u&&Z7 u.n ((-1000)*u.d) (1000*u.d)))] (X1 14) [3,4,5,6,7,8,9,10,11,12,13,14,15,2] [] (λ _ _ _=>True) ?_ (e2 ?_ ?_ (en rfl ?_ (eg ?_ (eg ?_ (eg ?_ (eg ?_ (eg ?_ (eg ?_ (eg ?_ (eg ?_ (eg ?_ (e2 ?_ ?_ .nil)))))))))))) ?_
 ·exact λ _ _=>trivial
 ·intro D B C H _ _ A;simp [go_sem,H.f.g rfl s1,(b3.k0 H.k).cell];exact (A _ _ H.k rfl trivial)
 ·intro D B C H _ _ A;simp [go_sem,(gS B 3 (H.d 0 rfl rfl))];refine (Kl u C hu).mono ?_;rintro x wx ⟨rfl,hb⟩;exact (A _ _ (H.k.call hb) rfl trivial)
 ·exact Ko 1 rfl rfl rfl rfl
 ·intro D B C H _ _ A;refine wgt rfl rfl rfl (H.d 2 rfl rfl) (λ qg=>A _ _ H.k (XA qg).symm trivial) λ qg=>?_;simp [go_sem,H.f.g rfl s1];exact (A _ _ H.k (XD qg).symm trivial)
 ·intro D B C H _ _ A;refine wgt rfl rfl rfl (H.d 2 rfl rfl) (λ qg=>A _ _ H.k (XA qg).symm trivial) λ qg=>?_;simp [go_sem,(show B.tmps[6]?.getD undef=_ from (H.d 3 rfl rfl).trans (XD qg)),(b3.k0 H.k).cell];exact (A _ _ H.k (XD qg).symm trivial)
 ·intro D B C H _ _ A;refine wgt rfl rfl rfl (H.d 2 rfl rfl) (λ qg=>A _ _ H.k (XA qg).symm trivial) λ qg=>?_;simp [go_sem,H.f.g rfl s1];exact (A _ _ H.k (XD qg).symm trivial)
 ·intro D B C H _ _ A;refine wgt rfl rfl rfl (H.d 2 rfl rfl) (λ qg=>A _ _ H.k (XA qg).symm trivial) λ qg=>?_;simp [go_sem,(show B.tmps[8]?.getD undef=_ from (H.d 5 rfl rfl).trans (XD qg)),(b3.k0 H.k).cell];exact (A _ _ H.k (XD qg).symm trivial)
 ·intro D B C H _ _ A;refine wgt rfl rfl rfl (H.d 2 rfl rfl) (λ qg=>A _ _ H.k (XA qg).symm trivial) λ qg=>?_;exact ZK rfl rfl (ev ((H.d 6 rfl rfl).trans (XD qg))) (by have k:=rok_bd2 qg;omega) (A _ _ H.k (XD qg).symm trivial)
 ·intro D B C H _ _ A;refine wgt rfl rfl rfl (H.d 2 rfl rfl) (λ qg=>A _ _ H.k (XA qg).symm trivial) λ qg=>?_;simp [go_sem,H.f.g rfl s1];exact (A _ _ H.k (XD qg).symm trivial)
 ·intro D B C H _ _ A;refine wgt rfl rfl rfl (H.d 2 rfl rfl) (λ qg=>A _ _ H.k (XA qg).symm trivial) λ qg=>?_;simp [go_sem,(show B.tmps[11]?.getD undef=_ from (H.d 8 rfl rfl).trans (XD qg)),(b3.k0 H.k).cell];exact (A _ _ H.k (XD qg).symm trivial)
 ·intro D B C H _ _ A;refine wgt rfl rfl rfl (H.d 2 rfl rfl) (λ qg=>A _ _ H.k (XA qg).symm trivial) λ qg=>?_;exact ZK rfl rfl (ev ((H.d 9 rfl rfl).trans (XD qg))) (by have k:=rok_bd2 qg;omega) (A _ _ H.k (XD qg).symm trivial)
 ·intro D B C H _ _ A;refine wgt rfl rfl rfl (H.d 2 rfl rfl) (λ qg=>A _ _ H.k (XA qg).symm trivial) λ qg=>?_;simp [go_sem,(show B.tmps[7]?.getD undef=_ from (H.d 4 rfl rfl).trans (XD qg)),(show B.tmps[10]?.getD undef=_ from (H.d 7 rfl rfl).trans (XD qg)),(show B.tmps[13]?.getD undef=_ from (H.d 10 rfl rfl).trans (XD qg))];refine (Yk u.n ((-1000)*u.d) (1000*u.d) C).mono ?_;rintro x wx ⟨rfl,rfl⟩;exact (A _ _ H.k (XD qg).symm trivial)
 ·exact λ D B C H _ _ A=>YQ rfl (ev (H.d 2 rfl rfl)) (λ h=>(ev ((H.d 11 rfl rfl).trans (XD h))).trans (vand_t h)) (λ h=>vand_f h) (A _ _ H.k rfl trivial)
 ·exact K6 12 rfl rfl rfl rfl
 intro L a4 w5 P G O K R;replace J:=G.Z J;replace F:=G.E F;have s2:=gS a4 2 (K 13 _ rfl);replace M:=Nat.le_trans M O.size;replace I:=O.below0 I;clear G O K P R s1 b3;refine Xi (wp_ret ?_);refine bodyPost_ret (v:=.bool (Xm u&&Z7 u.n ((-1000)*u.d) (1000*u.d))) (by simp [results,Tryz.results199,go_sem,s2]) F ?_;exact ⟨rfl,I⟩
theorem hasS_i {p:List Half} {s:XJ}:(!decide (p.length=0)&&Xt s&&Xe p&&YU p s)=hasS p s:=rfl
theorem iHasS_c (p:List Half) (s:XJ) (b:Ks) (w:World) (hlp:p.length<=1048576) (hpi:∀ h∈p,h.In) (hsp:Sl 3 Xg w b.A p) (hnb:b.A=none->b.c=0) (hsi:s.In) :
 Calls Tryz.prog 35 #[.agg #[.slice b.A p.length b.c],YC s] w λ x w'=>x=.returned (.bool (hasS p s))/\Below w.heap.size w w':=by
 refine Yp Tryz.func35 rfl (n:=21) Tryz.ntmps35 (by simp) ?_;intro a0 M I ha;have s0:a0.tmps[0]?.getD undef=.agg #[.slice b.A p.length b.c]:=ha 0 _ rfl;have s1:a0.tmps[1]?.getD undef=YC s:=ha 1 _ rfl;clear ha;have J:=Below.refl w.heap.size w;have O:=Nat.le_refl w.heap.size;refine wp_seq ?_;refine Yf [2,3,4] [.pointer (some ⟨w.heap.size,0,none⟩),.pointer (some ⟨(w.heap.size+1),0,none⟩),.bool false] [some (.cells [.slice b.A p.length b.c].toArray 26),some (.cells [.int .i64 s.x,.int .i64 s.y,.int .i64 s.d].toArray 30),none] [0,1,2] [2,3,4] [0,1,2] (by kernel_rfl) (by rw [M];decide) (ec ?_ (ec ?_ (ec ?_ .nil))) ?_
 ·intro a w' F hs N Q B;simp [go_sem,F.g rfl s0];rw [hs];exact B
 ·intro a w' F hs N Q B;simp [go_sem,F.g rfl s1];rw [hs];exact B
 ·intro a w' F hs N Q B;simp [go_sem];exact B
 intro a1 w2 F K hb hO;replace M:=F.size.trans M;replace I:=F.defers.trans I;have s2:a1.tmps[2]?.getD undef=.pointer (some ⟨w.heap.size,0,none⟩):=K 0 (by decide);have s3:a1.tmps[3]?.getD undef=.pointer (some ⟨(w.heap.size+1),0,none⟩):=K 1 (by decide);have b3:Xn w2 w.heap.size 26 [.slice b.A p.length b.c]:=hO 0 _ rfl;have b4:Xn w2 (w.heap.size+1) 30 [.int .i64 s.x,.int .i64 s.y,.int .i64 s.d]:=hO 1 _ rfl;have hG:=b4.lt;replace J:=Xh J hb;have zw2:=Nat.le_trans O hb.size;replace O:=Nat.le_refl w2.heap.size;clear F K hb hO s0 s1;refine Xi (wp_seq ?_);refine Xj [5,6,7,8,9,10,11,12,13,14,15,16,17,18,19,20,4] [some (.agg #[.slice b.A p.length b.c]),some (.bool (decide (p.length=0))),some (.bool (!(decide (p.length=0)))),some (.bool (!(decide (p.length=0)))),some ((bif !(decide (p.length=0)) then (YC s:Value) else undef)),some ((bif !(decide (p.length=0)) then (.bool (Xt s):Value) else undef)),some (.bool (!(decide (p.length=0))&&Xt s)),some (.bool (!(decide (p.length=0))&&Xt s)),some ((bif (!(decide (p.length=0))&&Xt s) then (.agg #[.slice b.A p.length b.c]:Value) else undef)),some ((bif (!(decide (p.length=0))&&Xt s) then (.bool (Xe p):Value) else undef)),some (.bool ((!(decide (p.length=0))&&Xt s)&&Xe p)),some (.bool ((!(decide (p.length=0))&&Xt s)&&Xe p)),some ((bif ((!(decide (p.length=0))&&Xt s)&&Xe p) then (.agg #[.slice b.A p.length b.c]:Value) else undef)),some ((bif ((!(decide (p.length=0))&&Xt s)&&Xe p) then (YC s:Value) else undef)),some ((bif ((!(decide (p.length=0))&&Xt s)&&Xe p) then (.bool (YU p s):Value) else undef)),some (.bool (((!(decide (p.length=0))&&Xt s)&&Xe p)&&YU p s)),some (.bool (((!(decide (p.length=0))&&Xt s)&&Xe p)&&YU p s))] (X1 17) [5,6,7,8,9,10,11,12,13,14,15,16,17,18,19,20,4] [] (λ _ _ _=>True) ?_ (e4 ?_ ?_ ?_ ?_ (eg ?_ (eg ?_ (e2 ?_ ?_ (eg ?_ (eg ?_ (e2 ?_ ?_ (eg ?_ (eg ?_ (eg ?_ (e2 ?_ ?_ .nil))))))))))) ?_
 ·exact λ _ _=>trivial
 ·intro G C D H _ _ B;simp [go_sem,H.f.g rfl s2,(b3.k0 H.k).cell];exact (B _ _ H.k rfl trivial)
 ·intro G C D H _ _ B;simp [go_sem,(gS C 5 (H.d 0 rfl rfl))];refine (Z8 p b D).mono ?_;rintro x wx ⟨rfl,hb⟩;exact (B _ _ (H.k.call hb) rfl trivial)
 ·exact KY 1 rfl rfl rfl rfl
 ·exact Ko 2 rfl rfl rfl rfl
 ·intro G C D H _ _ B;refine wgt rfl rfl rfl (H.d 3 rfl rfl) (λ qg=>B _ _ H.k (XA qg).symm trivial) λ qg=>?_;simp [go_sem,H.f.g rfl s3,(b4.k0 H.k).cell];exact (B _ _ H.k (XD qg).symm trivial)
 ·intro G C D H _ _ B;refine wgt rfl rfl rfl (H.d 3 rfl rfl) (λ qg=>B _ _ H.k (XA qg).symm trivial) λ qg=>?_;simp [go_sem,(show C.tmps[9]?.getD undef=_ from (H.d 4 rfl rfl).trans (XD qg))];refine (iSpotOk_c s D hsi).mono ?_;rintro x wx ⟨rfl,hb⟩;exact (B _ _ (H.k.call hb) (XD qg).symm trivial)
 ·exact λ G C D H _ _ B=>YQ rfl (ev (H.d 3 rfl rfl)) (λ h=>(ev ((H.d 5 rfl rfl).trans (XD h))).trans (vand_t h)) (λ h=>vand_f h) (B _ _ H.k rfl trivial)
 ·exact Ko 6 rfl rfl rfl rfl
 ·intro G C D H _ _ B;refine wgt rfl rfl rfl (H.d 7 rfl rfl) (λ qg=>B _ _ H.k (XA qg).symm trivial) λ qg=>?_;simp [go_sem,H.f.g rfl s2,(b3.k0 H.k).cell];exact (B _ _ H.k (XD qg).symm trivial)
 ·intro G C D H _ _ B;refine wgt rfl rfl rfl (H.d 7 rfl rfl) (λ qg=>B _ _ H.k (XA qg).symm trivial) λ qg=>?_;simp [go_sem,(show C.tmps[13]?.getD undef=_ from (H.d 8 rfl rfl).trans (XD qg))];have hBi:=H.k.below0 J;refine (Z9 p b D hlp hpi (hsp.below hBi) hnb).mono ?_;rintro x wx ⟨rfl,hb⟩;exact (B _ _ (H.k.call hb) (XD qg).symm trivial)
 ·exact λ G C D H _ _ B=>YQ rfl (ev (H.d 7 rfl rfl)) (λ h=>(ev ((H.d 9 rfl rfl).trans (XD h))).trans (vand_t h)) (λ h=>vand_f h) (B _ _ H.k rfl trivial)
 ·exact Ko 10 rfl rfl rfl rfl
 ·intro G C D H _ _ B;refine wgt rfl rfl rfl (H.d 11 rfl rfl) (λ qg=>B _ _ H.k (XA qg).symm trivial) λ qg=>?_;simp [go_sem,H.f.g rfl s2,(b3.k0 H.k).cell];exact (B _ _ H.k (XD qg).symm trivial)
 ·intro G C D H _ _ B;refine wgt rfl rfl rfl (H.d 11 rfl rfl) (λ qg=>B _ _ H.k (XA qg).symm trivial) λ qg=>?_;simp [go_sem,H.f.g rfl s3,(b4.k0 H.k).cell];exact (B _ _ H.k (XD qg).symm trivial)
 ·intro G C D H _ _ B;refine wgt rfl rfl rfl (H.d 11 rfl rfl) (λ qg=>B _ _ H.k (XA qg).symm trivial) λ qg=>?_;simp [go_sem,(show C.tmps[17]?.getD undef=_ from (H.d 12 rfl rfl).trans (XD qg)),(show C.tmps[18]?.getD undef=_ from (H.d 13 rfl rfl).trans (XD qg))];have hBi:=H.k.below0 J;refine (iHolds_c p b s D (by have:=Yo (and_t2 qg);omega) (Zo (and_t2 qg)) (and_t2 (and_t1 qg)) (hsp.below hBi)).mono ?_;rintro x wx ⟨rfl,hb⟩;exact (B _ _ (H.k.call hb) (XD qg).symm trivial)
 ·exact λ G C D H _ _ B=>YQ rfl (ev (H.d 11 rfl rfl)) (λ h=>(ev ((H.d 14 rfl rfl).trans (XD h))).trans (vand_t h)) (λ h=>vand_f h) (B _ _ H.k rfl trivial)
 ·exact K6 15 rfl rfl rfl rfl
 intro L a5 w6 R F P K S;replace M:=F.Z M;replace I:=F.E I;have s4:=gS a5 4 (K 16 _ rfl);replace O:=Nat.le_trans O P.size;replace J:=P.below0 J;clear F P K R S s2 s3 b3 b4;refine Xi (wp_ret ?_);refine bodyPost_ret (v:=.bool (((!(decide (p.length=0))&&Xt s)&&Xe p)&&YU p s)) (by simp [results,Tryz.results35,go_sem,s4]) I ?_;exact ⟨by rw [hasS_i],J⟩
end Go.Proofs.YtabfdkpdppemaaaGreat
