/-
 The input that is picked: both ways to tell it agree. No program is named here.
 Conditions: none.
-/
import Derived.Test.YtabfdkpdppemaaaGreatAdmDQa
namespace Go.Proofs.YtabfdkpdppemaaaGreat
open Go.RowKit
theorem cmp_def {r s:Y3} (hr:Xy r=true) (hs:Xy s=true):XK r s=sgn (r.n*s.d-s.n*r.d):=by
 unfold XK;rw [if_pos ⟨hr,hs⟩];rfl
section
variable {v:YT} {wish:Int} (h:XQ v=true)
include h
end
def Btw (w:YT) (n e:Int):Prop:=w.low.n*e<=n*w.low.d/\n*w.high.d<=w.high.n*e
theorem cmp_le {r s:Y3} (hr:Xy r=true) (hs:Xy s=true):XK r s<=0 ↔ r.n*s.d<=s.n*r.d:=by
 rw [cmp_def hr hs,gsgn_le];omega
theorem Jn {r:Y3} (h:Xy r=true):1<=r.d:=(ratioOk_bd h).1.1
theorem spanOk_le {w:YT} (h:XQ w=true):w.low.n*w.high.d<=w.high.n*w.low.d:=by
 have h2:=Kv h;unfold XQ at h;simp only [Bool.and_eq_true,decide_eq_true_eq] at h;exact (cmp_le h2.1 h2.2).1 h.2
theorem spanOk_mk {w:YT} (h1:Xy w.low=true) (h2:Xy w.high=true) (h:w.low.n*w.high.d<=w.high.n*w.low.d):XQ w=true:=by
 unfold XQ;rw [h1,h2,decide_eq_true ((cmp_le h1 h2).2 h)];rfl
theorem btw_low {w:YT} (hw:XQ w=true):Btw w w.low.n w.low.d:=⟨Int.le_refl _,spanOk_le hw⟩
theorem btw_high {w:YT} (hw:XQ w=true):Btw w w.high.n w.high.d:=⟨spanOk_le hw,Int.le_refl _⟩
theorem btw_ok {w:YT} {n e:Int} (h1:Xy w.low=true) (h2:Xy w.high=true) (he:0<e) (h:Btw w n e):XQ w=true :=
 spanOk_mk h1 h2 (ZP (a:=w.low.n) (b:=w.low.d) (c:=n) (d:=e) (e:=w.high.n) (f:=w.high.d) he (by have:=Jn h1;omega) (by have:=Jn h2;omega) h.1 h.2)
theorem maxR_le {a b:Y3} (ha:Xy a=true) (hb:Xy b=true) {n e:Int} (he:0<e):(X1 a b).n*e<=n*(X1 a b).d ↔ a.n*e<=n*a.d/\b.n*e<=n*b.d:=by
 have pa:=Jn ha;have pb:=Jn hb;unfold X1;rw [if_pos ⟨ha,hb⟩];split
 ·rename_i h
  rw [cmp_def ha hb,gsgn_ge] at h;exact ⟨λ k=>⟨k,ZP (a:=b.n) (b:=b.d) (c:=a.n) (d:=a.d) (e:=n) (f:=e) (by omega) (by omega) (by omega) (by omega) k⟩,λ k=>k.1⟩
 ·rename_i h
  rw [cmp_def ha hb,gsgn_ge] at h;exact ⟨λ k=>⟨ZP (a:=a.n) (b:=a.d) (c:=b.n) (d:=b.d) (e:=n) (f:=e) (by omega) (by omega) (by omega) (by omega) k,k⟩,λ k=>k.2⟩
theorem minR_ge {a b:Y3} (ha:Xy a=true) (hb:Xy b=true) {n e:Int} (he:0<e):n*(X0 a b).d<=(X0 a b).n*e ↔ n*a.d<=a.n*e/\n*b.d<=b.n*e:=by
 have pa:=Jn ha;have pb:=Jn hb;unfold X0;rw [if_pos ⟨ha,hb⟩];split
 ·rename_i h
  rw [cmp_def ha hb,gsgn_le] at h;exact ⟨λ k=>⟨k,ZP (a:=n) (b:=e) (c:=a.n) (d:=a.d) (e:=b.n) (f:=b.d) (by omega) (by omega) (by omega) k (by omega)⟩,λ k=>k.1⟩
 ·rename_i h
  rw [cmp_def ha hb,gsgn_le] at h;exact ⟨λ k=>⟨ZP (a:=n) (b:=e) (c:=b.n) (d:=b.d) (e:=a.n) (f:=a.d) (by omega) (by omega) (by omega) k (by omega),k⟩,λ k=>k.2⟩
theorem of_le {t d n e:Int} (ht : -1000000000000000000<=t/\t<=1000000000000000000) (hd:1<=d/\d<=1000000000000000):Xy (XG t d)=true/\((XG t d).n*e<=n*(XG t d).d ↔ t*e<=n*d)/\(n*(XG t d).d<=(XG t d).n*e ↔ n*d<=t*e):=by
 obtain ⟨ok,k,hk,e1,e2⟩:=ZR ht hd;generalize (XG t d).n=N at *;generalize (XG t d).d=D at *;have a1:t*e=k*(N*e):=by rw [e1,Int.mul_assoc]
 have a2:n*d=k*(n*D):=by rw [e2,Int.mul_left_comm]
 refine ⟨ok, ?_, ?_⟩
 ·rw [a1,a2];exact ⟨λ h=>Int.mul_le_mul_of_nonneg_left h (by omega),λ h=>Int.le_of_mul_le_mul_left h hk⟩
 ·rw [a1,a2];exact ⟨λ h=>Int.mul_le_mul_of_nonneg_left h (by omega),λ h=>Int.le_of_mul_le_mul_left h hk⟩
def AdmH (r:XH) (s:Xz) (h:Half) (n e:Int):Prop:=Yk r h*n*YM r s<=J6 r s h*e
theorem admStep_btw {r:XH} {s:Xz} {h:Half} (M:MapB r s) (P:AdmP r s h) {v:YT} (h1:Xy v.low=true) (h2:Xy v.high=true) :
 (∀ w,Zr r s v h=some w->(Xy w.low=true/\Xy w.high=true)/\∀ n e,0<e->(Btw w n e ↔ Btw v n e/\AdmH r s h n e))/\((Yk r h=0->0<=J6 r s h)->∃ w,Zr r s v h=some w):=by
 unfold Zr;split
 ·rename_i hn
  obtain ⟨t,d⟩:=adm_high P M hn;refine ⟨λ w hw=>?_,λ _=>⟨_,rfl⟩⟩;injection hw with hw
  have o:=(of_le (n:=0) (e:=1) t d).1;subst hw;refine ⟨⟨h1,ratioMin_ok h2 o⟩,λ n e he=>?_⟩;unfold Btw AdmH;simp only;rw [minR_ge h2 o he,(of_le (n:=n) (e:=e) t d).2.2];have e1:Yk r h*n*YM r s=n*(YM r s*Yk r h):=by grind
  rw [e1];exact ⟨λ k=>⟨⟨k.1,k.2.1⟩,k.2.2⟩,λ k=>⟨k.1.1,k.1.2,k.2⟩⟩
 ·rename_i hn1
  split
  ·rename_i hn
   obtain ⟨t,d⟩:=adm_low P M hn;refine ⟨λ w hw=>?_,λ _=>⟨_,rfl⟩⟩;injection hw with hw
   have o:=(of_le (n:=0) (e:=1) t d).1;subst hw;refine ⟨⟨ratioMax_ok h1 o,h2⟩,λ n e he=>?_⟩;unfold Btw AdmH;simp only;rw [maxR_le h1 o he,(of_le (n:=n) (e:=e) t d).2.1];have e1:n*(-(YM r s)*Yk r h) = -(Yk r h*n*YM r s):=by grind
   have e2 : -(J6 r s h)*e = -(J6 r s h*e):=Int.neg_mul _ _;rw [e1,e2];exact ⟨λ k=>⟨⟨k.1.1,k.2⟩,by omega⟩,λ k=>⟨⟨k.1.1,by omega⟩,k.1.2⟩⟩
  ·rename_i hn2
   have h0:Yk r h=0:=by omega
   split
   ·rename_i ht
    exact ⟨λ w hw=>(by cases hw),λ k=>absurd (k h0) (by omega)⟩
   ·rename_i ht
    refine ⟨λ w hw=>?_,λ _=>⟨_,rfl⟩⟩;injection hw with hw
    subst hw;refine ⟨⟨h1,h2⟩,λ n e he=>?_⟩;unfold AdmH;rw [h0,Int.zero_mul,Int.zero_mul];exact ⟨λ k=>⟨k,Int.mul_nonneg (by omega) (by omega)⟩,λ k=>k.1⟩
theorem adm_fold {r:XH} {s:Xz} (B:RoomB r) (M:MapB r s):∀ (l:List Half) (v:YT),(∀ h∈l,Xn h=true)->Xy v.low=true->Xy v.high=true ->
 (∀ w,l.foldl (λ o h=>o.bind λ w=>Zr r s w h) (some v)=some w->(Xy w.low=true/\Xy w.high=true)/\∀ n e,0<e->(Btw w n e ↔ Btw v n e/\∀ h∈l,AdmH r s h n e))/\((∀ h∈l,Yk r h=0->0<=J6 r s h)->∃ w,l.foldl (λ o h=>o.bind λ w=>Zr r s w h) (some v)=some w)
 | [],v,_,h1,h2=>by
  refine ⟨λ w hw=>?_,λ _=>⟨v,rfl⟩⟩;injection hw with hw
  subst hw;exact ⟨⟨h1,h2⟩,λ n e _=>⟨λ k=>⟨k,λ h hh=>by cases hh⟩,λ k=>k.1⟩⟩
 | h :: l,v,hl,h1,h2=>by
  obtain ⟨S1,S2⟩:=admStep_btw M (admP B M (hl h (List.mem_cons_self ..))) h1 h2;have fold_none:∀ l:List Half,l.foldl (λ o h=>o.bind λ w=>Zr r s w h) (none:Option YT)=none:=by
   intro l;induction l with
   | nil=>rfl
   | cons x t ih=>exact ih
  constructor
  ·intro w hw;rw [List.foldl_cons,Option.bind_some] at hw;cases e:Zr r s v h with
   | none=>rw [e,fold_none] at hw;cases hw
   | some u =>
    rw [e] at hw;obtain ⟨⟨u1,u2⟩,ub⟩:=S1 u e;obtain ⟨wo,wb⟩:=(adm_fold B M l u (λ k hk=>hl k (List.mem_cons_of_mem _ hk)) u1 u2).1 w hw;refine ⟨wo,λ n e he=>?_⟩;rw [wb n e he,ub n e he];constructor
    ·rintro ⟨⟨k1,k2⟩,k3⟩;refine ⟨k1,λ g hg=>?_⟩;rcases List.mem_cons.1 hg with rfl|hg
     ·exact k2
     ·exact k3 g hg
    ·rintro ⟨k1,k2⟩;exact ⟨⟨k1,k2 h (List.mem_cons_self ..)⟩,λ g hg=>k2 g (List.mem_cons_of_mem _ hg)⟩
  ·intro h0;obtain ⟨u,e⟩:=S2 (h0 h (List.mem_cons_self ..));obtain ⟨⟨u1,u2⟩,_⟩:=S1 u e;rw [List.foldl_cons,Option.bind_some,e];exact (adm_fold B M l u (λ k hk=>hl k (List.mem_cons_of_mem _ hk)) u1 u2).2 (λ k hk=>h0 k (List.mem_cons_of_mem _ hk))
structure AdmS (r:XH) (E:List Half) (s:Xz) (w:YT):Prop where
 ok:XQ w=true
 btw:∀ n e,0<e->(Btw w n e ↔ (r.low*e<=n/\n<=r.high*e)/\∀ h∈E,AdmH r s h n e)
theorem btw0 {r:XH} {n e:Int}:Btw ⟨⟨r.low,1⟩,⟨r.high,1⟩⟩ n e ↔ r.low*e<=n/\n<=r.high*e:=by
 unfold Btw;simp only [Int.mul_one]
theorem admit_btw {r:XH} {E:List Half} {s:Xz} (hr:XT r=true) (hs:XA s=true) (hE:∀ h∈E,Xn h=true) {w:YT} (h:X9 r E s=some w):AdmS r E s w:=by
 have B:=roomB hr;have ok:=admit_spanOk h;unfold X9 at h;split at h
 ·cases h
 ·rename_i hd
  have M:=mapB B hs (by omega);have F:=(adm_fold B M E ⟨⟨r.low,1⟩,⟨r.high,1⟩⟩ hE (one_ok B.low) (one_ok ⟨by have:=B.low;have:=B.high;omega,by have:=B.high;omega⟩)).1;cases e:JV r s E with
  | none=>rw [e] at h;cases h
  | some v =>
   rw [e,Option.bind_some] at h;split at h
   ·injection h with h
    subst h;refine ⟨ok,λ n e' he=>?_⟩;rw [(F v e).2 n e' he,btw0]
   ·cases h
theorem admit_some {r:XH} {E:List Half} {s:Xz} (hr:XT r=true) (hs:XA s=true) (hd:s.d<=100000) (hE:∀ h∈E,Xn h=true) {n e:Int} (he:0<e) (h1:r.low*e<=n) (h2:n<=r.high*e) (hA:∀ h∈E,AdmH r s h n e):∃ w,X9 r E s=some w/\Btw w n e:=by
 have B:=roomB hr;have M:=mapB B hs hd;have F:=adm_fold B M E ⟨⟨r.low,1⟩,⟨r.high,1⟩⟩ hE (one_ok B.low) (one_ok ⟨by have:=B.low;have:=B.high;omega,by have:=B.high;omega⟩);obtain ⟨w,hw⟩:=F.2 (λ h hh h0=>by
  have:=hA h hh;unfold AdmH at this;rw [h0,Int.zero_mul,Int.zero_mul] at this;exact gmn (a:=e) (by rw [Int.mul_comm];exact this) he)
 obtain ⟨⟨o1,o2⟩,hb⟩:=F.1 w hw;have hbt:Btw w n e:=(hb n e he).2 ⟨btw0.2 ⟨h1,h2⟩,hA⟩;refine ⟨w, ?_,hbt⟩;unfold X9;rw [if_neg (by omega),show JV r s E=some w from hw,Option.bind_some,if_pos (btw_ok o1 o2 he hbt)]
theorem box_lin {A B C x0 x1 y0 y1 x y:Int} (hx:x0<=x/\x<=x1) (hy:y0<=y/\y<=y1) (c1:0<=A*x0+B*y0+C) (c2:0<=A*x1+B*y0+C) (c3:0<=A*x1+B*y1+C) (c4:0<=A*x0+B*y1+C):0<=A*x+B*y+C:=by
 rcases Int.le_total 0 A with hA|hA<;>rcases Int.le_total 0 B with hB|hB
 ·have m1:=Int.mul_le_mul_of_nonneg_left hx.1 hA;have m2:=Int.mul_le_mul_of_nonneg_left hy.1 hB;omega
 ·have m1:=Int.mul_le_mul_of_nonneg_left hx.1 hA;have m2:=Int.mul_le_mul_of_nonpos_left hB hy.2;omega
 ·have m1:=Int.mul_le_mul_of_nonpos_left hA hx.2;have m2:=Int.mul_le_mul_of_nonneg_left hy.1 hB;omega
 ·have m1:=Int.mul_le_mul_of_nonpos_left hA hx.2;have m2:=Int.mul_le_mul_of_nonpos_left hB hy.2;omega
theorem box_adm {r:XH} {h:Half} {n e x0 x1 y0 y1 x y:Int} (hx:x0<=x/\x<=x1) (hy:y0<=y/\y<=y1) (c1:AdmH r ⟨x0,y0,1⟩ h n e) (c2:AdmH r ⟨x1,y0,1⟩ h n e) (c3:AdmH r ⟨x1,y1,1⟩ h n e) (c4:AdmH r ⟨x0,y1,1⟩ h n e):AdmH r ⟨x,y,1⟩ h n e:=by
 have key:∀ x y:Int,AdmH r ⟨x,y,1⟩ h n e ↔ 0<=-((h.a*r.map.getD 0 0+h.b*r.map.getD 2 0)*e)*x + -((h.a*r.map.getD 1 0+h.b*r.map.getD 3 0)*e)*y+(h.c*r.div*e-Yk r h*n*r.div):=by
  intro x y;unfold AdmH J6 mapX mapY YM;simp only [Int.mul_one];have e1:(h.c*r.div-h.a*(r.map.getD 0 0*x+r.map.getD 1 0*y)-h.b*(r.map.getD 2 0*x+r.map.getD 3 0*y))*e = -((h.a*r.map.getD 0 0+h.b*r.map.getD 2 0)*e)*x + -((h.a*r.map.getD 1 0+h.b*r.map.getD 3 0)*e)*y+h.c*r.div*e:=by grind
  omega
 rw [key] at *;exact box_lin hx hy c1 c2 c3 c4
theorem meetSp_btw {a b w:YT} (h:KG a b=some w) {n e:Int} (he:0<e):Btw w n e ↔ Btw a n e/\Btw b n e:=by
 unfold KG at h;split at h
 ·rename_i q
  injection h with h
  obtain ⟨a1,a2⟩:=Kv q.1;obtain ⟨b1,b2⟩:=Kv q.2.1;subst h;unfold Btw;simp only;rw [maxR_le a1 b1 he,minR_ge a2 b2 he];exact ⟨λ k=>⟨⟨k.1.1,k.2.1⟩,k.1.2,k.2.2⟩,λ k=>⟨⟨k.1.1,k.2.1⟩,k.1.2,k.2.2⟩⟩
 ·cases h
theorem meetSp_some {a b:YT} (ha:XQ a=true) (hb:XQ b=true) {n e:Int} (he:0<e) (h1:Btw a n e) (h2:Btw b n e):∃ w,KG a b=some w:=by
 obtain ⟨a1,a2⟩:=Kv ha;obtain ⟨b1,b2⟩:=Kv hb;unfold KG;refine ⟨_,if_pos ⟨ha,hb, ?_⟩⟩;refine btw_ok (ratioMax_ok a1 b1) (ratioMin_ok a2 b2) he (n:=n) (e:=e) ⟨?_, ?_⟩
 ·exact (maxR_le a1 b1 he).2 ⟨h1.1,h2.1⟩
 ·exact (minR_ge a2 b2 he).2 ⟨h1.2,h2.2⟩
theorem accS_btw {A:Xz->Option YT} {l:List Xz} (hA:∀ t v,A t=some v->XQ v=true):∀ (k:Nat) (w:YT),ZC A l (k+1)=some w->XQ w=true/\(∀ i,i<k+1->∃ v,A (l.getD i JH)=some v)/\∀ n e,0<e->(Btw w n e ↔ ∀ i,i<k+1->∀ v,A (l.getD i JH)=some v->Btw v n e)
 | 0,w,h=>by
  rw [ZC,ZC,Option.bind_some] at h;cases e:A (l.getD 0 JH) with
  | none=>rw [e] at h;cases h
  | some v =>
   rw [e,Option.bind_some,if_pos rfl] at h;injection h with h
   subst h;refine ⟨hA _ _ e,λ i hi=>⟨v,by rw [show i=0 by omega];exact e⟩,λ n e' _=>⟨λ k i hi u hu=>?_,λ k=>k 0 (by omega) v e⟩⟩;rw [show i=0 by omega,e] at hu;injection hu with hu
   rw [<- hu];exact k
 | k+1,w,h=>by
  rw [ZC] at h;cases e:ZC A l (k+1) with
  | none=>rw [e] at h;cases h
  | some u =>
   rw [e,Option.bind_some] at h;cases e2:A (l.getD (k+1) JH) with
   | none=>rw [e2] at h;cases h
   | some v =>
    rw [e2,Option.bind_some,if_neg (by omega)] at h;obtain ⟨_,i2,i3⟩:=accS_btw hA k u e;refine ⟨meetSp_ok h,λ i hi=>?_,λ n e' he=>?_⟩
    ·by_cases hk:i=k+1
     ·exact ⟨v,by rw [hk];exact e2⟩
     ·exact i2 i (by omega)
    ·rw [meetSp_btw h he,i3 n e' he];constructor
     ·rintro ⟨k1,k2⟩ i hi x hx;by_cases hk:i=k+1
      ·rw [hk,e2] at hx;injection hx with hx
       rw [<- hx];exact k2
      ·exact k1 i (by omega) x hx
     ·intro k0;exact ⟨λ i hi=>k0 i (by omega),k0 (k+1) (by omega) v e2⟩
theorem accS_some {A:Xz->Option YT} {l:List Xz} (hA:∀ t v,A t=some v->XQ v=true) {n e:Int} (he:0<e):∀ k:Nat,(∀ i,i<k+1->∃ v,A (l.getD i JH)=some v/\Btw v n e)->∃ w,ZC A l (k+1)=some w/\Btw w n e
 | 0,h=>by
  obtain ⟨v,hv,hb⟩:=h 0 (by omega);exact ⟨v,by rw [ZC,ZC,Option.bind_some,hv,Option.bind_some,if_pos rfl],hb⟩
 | k+1,h=>by
  obtain ⟨u,hu,hub⟩:=accS_some hA he k (λ i hi=>h i (by omega));obtain ⟨v,hv,hvb⟩:=h (k+1) (by omega);obtain ⟨w,hw⟩:=meetSp_some (accS_btw hA k u hu).1 (hA _ _ hv) he hub hvb;exact ⟨w,by rw [ZC,hu,Option.bind_some,hv,Option.bind_some,if_neg (by omega),hw],(meetSp_btw hw he).2 ⟨hub,hvb⟩⟩
end Go.Proofs.YtabfdkpdppemaaaGreat
