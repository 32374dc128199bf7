/-
 The inputs that are admitted at a state, as fractions; whole boxes of states; the region before a step.
 Conditions: valid rooms, regions and states.
-/
import Derived.Test.YtbekjpkcicjcgabGreatInv2
namespace Go.Proofs.YtbekjpkcicjcgabGreat
open Go.RowKit
def Btw (w:Span) (n e:Int):Prop:=w.low.n*e<=n*w.low.d/\n*w.high.d<=w.high.n*e
theorem Ji {r:Yu} (h:XE r=true):1<=r.d:=(ratioOk_bd h).1.1
theorem maxR_le {a b:Yu} (ha:XE a=true) (hb:XE b=true) {n e:Int} (he:0<e):(ratioMax a b).n*e<=n*(ratioMax a b).d ↔ a.n*e<=n*a.d/\b.n*e<=n*b.d:=by
 have pa:=Ji ha;have pb:=Ji hb;unfold ratioMax;rw [if_pos ⟨ha,hb⟩];split
 ·rename_i h
  rw [cmp_def ha hb,gsgn_ge] at h;exact ⟨λ k=>⟨k,ZG (a:=b.n) (b:=b.d) (c:=a.n) (d:=a.d) (e:=n) (f:=e) (by omega) (by omega) (by omega) (by omega) k⟩,λ k=>k.1⟩
 ·rename_i h
  rw [cmp_def ha hb,gsgn_ge] at h;exact ⟨λ k=>⟨ZG (a:=a.n) (b:=a.d) (c:=b.n) (d:=b.d) (e:=n) (f:=e) (by omega) (by omega) (by omega) (by omega) k,k⟩,λ k=>k.2⟩
theorem minR_ge {a b:Yu} (ha:XE a=true) (hb:XE b=true) {n e:Int} (he:0<e):n*(ratioMin a b).d<=(ratioMin a b).n*e ↔ n*a.d<=a.n*e/\n*b.d<=b.n*e:=by
 have pa:=Ji ha;have pb:=Ji hb;unfold ratioMin;rw [if_pos ⟨ha,hb⟩];split
 ·rename_i h
  rw [cmp_def ha hb,gsgn_le] at h;exact ⟨λ k=>⟨k,ZG (a:=n) (b:=e) (c:=a.n) (d:=a.d) (e:=b.n) (f:=b.d) (by omega) (by omega) (by omega) k (by omega)⟩,λ k=>k.1⟩
 ·rename_i h
  rw [cmp_def ha hb,gsgn_le] at h;exact ⟨λ k=>⟨ZG (a:=n) (b:=e) (c:=b.n) (d:=b.d) (e:=a.n) (f:=a.d) (by omega) (by omega) (by omega) k (by omega),k⟩,λ k=>k.2⟩
theorem of_le {t d n e:Int} (ht : -1000000000000000000<=t/\t<=1000000000000000000) (hd:1<=d/\d<=1000000000000000):XE (X6 t d)=true/\((X6 t d).n*e<=n*(X6 t d).d ↔ t*e<=n*d)/\(n*(X6 t d).d<=(X6 t d).n*e ↔ n*d<=t*e):=by
 obtain ⟨ok,k,hk,e1,e2⟩:=ratioOf_scale ht hd;generalize (X6 t d).n=N at *;generalize (X6 t d).d=D at *;have a1:t*e=k*(N*e):=by rw [e1,Int.mul_assoc]
 have a2:n*d=k*(n*D):=by rw [e2,Int.mul_left_comm]
 refine ⟨ok, ?_, ?_⟩
 ·rw [a1,a2];exact ⟨λ h=>Int.mul_le_mul_of_nonneg_left h (by omega),λ h=>Int.le_of_mul_le_mul_left h hk⟩
 ·rw [a1,a2];exact ⟨λ h=>Int.mul_le_mul_of_nonneg_left h (by omega),λ h=>Int.le_of_mul_le_mul_left h hk⟩
def AdmH (r:XK) (s:XW) (h:Half) (n e:Int):Prop:=XH r h*n*Z7 r s<=topA r s h*e
theorem admStep_btw {r:XK} {s:XW} {h:Half} (M:MapB r s) (P:AdmP r s h) {v:Span} (h1:XE v.low=true) (h2:XE v.high=true) :
 (∀ w,admStep r s v h=some w->(XE w.low=true/\XE w.high=true)/\∀ n e,0<e->(Btw w n e ↔ Btw v n e/\AdmH r s h n e))/\((XH r h=0->0<=topA r s h)->∃ w,admStep r s v h=some w):=by
 unfold admStep;split
 ·rename_i hn
  obtain ⟨t,d⟩:=adm_high P M hn;refine ⟨λ w hw=>?_,λ _=>⟨_,rfl⟩⟩;injection hw with hw
  have o:=(of_le (n:=0) (e:=1) t d).1;subst hw;refine ⟨⟨h1,ratioMin_ok h2 o⟩,λ n e he=>?_⟩;unfold Btw AdmH;simp only;rw [minR_ge h2 o he,(of_le (n:=n) (e:=e) t d).2.2];have e1:XH r h*n*Z7 r s=n*(Z7 r s*XH r h):=by grind
  rw [e1];exact ⟨λ k=>⟨⟨k.1,k.2.1⟩,k.2.2⟩,λ k=>⟨k.1.1,k.1.2,k.2⟩⟩
 ·rename_i hn1
  split
  ·rename_i hn
   obtain ⟨t,d⟩:=adm_low P M hn;refine ⟨λ w hw=>?_,λ _=>⟨_,rfl⟩⟩;injection hw with hw
   have o:=(of_le (n:=0) (e:=1) t d).1;subst hw;refine ⟨⟨ratioMax_ok h1 o,h2⟩,λ n e he=>?_⟩;unfold Btw AdmH;simp only;rw [maxR_le h1 o he,(of_le (n:=n) (e:=e) t d).2.1];have e1:n*(-(Z7 r s)*XH r h) = -(XH r h*n*Z7 r s):=by grind
   have e2 : -(topA r s h)*e = -(topA r s h*e):=Int.neg_mul _ _;rw [e1,e2];exact ⟨λ k=>⟨⟨k.1.1,k.2⟩,by omega⟩,λ k=>⟨⟨k.1.1,by omega⟩,k.1.2⟩⟩
  ·rename_i hn2
   have h0:XH r h=0:=by omega
   split
   ·rename_i ht
    exact ⟨λ w hw=>(by cases hw),λ k=>absurd (k h0) (by omega)⟩
   ·rename_i ht
    refine ⟨λ w hw=>?_,λ _=>⟨_,rfl⟩⟩;injection hw with hw
    subst hw;refine ⟨⟨h1,h2⟩,λ n e he=>?_⟩;unfold AdmH;rw [h0,Int.zero_mul,Int.zero_mul];exact ⟨λ k=>⟨k,Int.mul_nonneg (by omega) (by omega)⟩,λ k=>k.1⟩
theorem adm_fold {r:XK} {s:XW} (B:RoomB r) (M:MapB r s):∀ (l:List Half) (v:Span),(∀ h∈l,Xq h=true)->XE v.low=true->XE v.high=true ->
 (∀ w,l.foldl (λ o h=>o.bind λ w=>admStep r s w h) (some v)=some w->(XE w.low=true/\XE w.high=true)/\∀ n e,0<e->(Btw w n e ↔ Btw v n e/\∀ h∈l,AdmH r s h n e))/\((∀ h∈l,XH r h=0->0<=topA r s h)->∃ w,l.foldl (λ o h=>o.bind λ w=>admStep r s w h) (some v)=some w)
 | [],v,_,h1,h2=>by
  refine ⟨λ w hw=>?_,λ _=>⟨v,rfl⟩⟩;injection hw with hw
  subst hw;exact ⟨⟨h1,h2⟩,λ n e _=>⟨λ k=>⟨k,λ h hh=>by cases hh⟩,λ k=>k.1⟩⟩
 | h :: l,v,hl,h1,h2=>by
  obtain ⟨S1,S2⟩:=admStep_btw M (admP B M (hl h (List.mem_cons_self ..))) h1 h2;have fold_none:∀ l:List Half,l.foldl (λ o h=>o.bind λ w=>admStep r s w h) (none:Option Span)=none:=by
   intro l;induction l with
   | nil=>rfl
   | cons x t ih=>exact ih
  constructor
  ·intro w hw;rw [List.foldl_cons,Option.bind_some] at hw;cases e:admStep r s v h with
   | none=>rw [e,fold_none] at hw;cases hw
   | some u =>
    rw [e] at hw;obtain ⟨⟨u1,u2⟩,ub⟩:=S1 u e;obtain ⟨wo,wb⟩:=(adm_fold B M l u (λ k hk=>hl k (List.mem_cons_of_mem _ hk)) u1 u2).1 w hw;refine ⟨wo,λ n e he=>?_⟩;rw [wb n e he,ub n e he];constructor
    ·rintro ⟨⟨k1,k2⟩,k3⟩;refine ⟨k1,λ g hg=>?_⟩;rcases List.mem_cons.1 hg with rfl|hg
     ·exact k2
     ·exact k3 g hg
    ·rintro ⟨k1,k2⟩;exact ⟨⟨k1,k2 h (List.mem_cons_self ..)⟩,λ g hg=>k2 g (List.mem_cons_of_mem _ hg)⟩
  ·intro h0;obtain ⟨u,e⟩:=S2 (h0 h (List.mem_cons_self ..));obtain ⟨⟨u1,u2⟩,_⟩:=S1 u e;rw [List.foldl_cons,Option.bind_some,e];exact (adm_fold B M l u (λ k hk=>hl k (List.mem_cons_of_mem _ hk)) u1 u2).2 (λ k hk=>h0 k (List.mem_cons_of_mem _ hk))
structure AdmS (r:XK) (E:List Half) (s:XW) (w:Span):Prop where
 ok:spanOk w=true
 btw:∀ n e,0<e->(Btw w n e ↔ (r.low*e<=n/\n<=r.high*e)/\∀ h∈E,AdmH r s h n e)
theorem btw0 {r:XK} {n e:Int}:Btw ⟨⟨r.low,1⟩,⟨r.high,1⟩⟩ n e ↔ r.low*e<=n/\n<=r.high*e:=by
 unfold Btw;simp only [Int.mul_one]
theorem admit_btw {r:XK} {E:List Half} {s:XW} (hr:XG r=true) (hs:XP s=true) (hE:∀ h∈E,Xq h=true) {w:Span} (h:admit r E s=some w):AdmS r E s w:=by
 have B:=roomB hr;have ok:=admit_spanOk h;unfold admit at h;split at h
 ·cases h
 ·rename_i hd
  have M:=mapB B hs (by omega);have F:=(adm_fold B M E ⟨⟨r.low,1⟩,⟨r.high,1⟩⟩ hE (one_ok B.low) (one_ok ⟨by have:=B.low;have:=B.high;omega,by have:=B.high;omega⟩)).1;cases e:admL r s E with
  | none=>rw [e] at h;cases h
  | some v =>
   rw [e,Option.bind_some] at h;split at h
   ·injection h with h
    subst h;refine ⟨ok,λ n e' he=>?_⟩;rw [(F v e).2 n e' he,btw0]
   ·cases h
theorem admH_iff {r:XK} {s:XW} {h:Half} {n e:Int}:AdmH r s h n e ↔ Yp h (mapX r s*e+r.bx*n*Z7 r s) (mapY r s*e+r.by_*n*Z7 r s) (Z7 r s*e):=by
 unfold AdmH Yp topA XH;have e1:h.a*(mapX r s*e+r.bx*n*Z7 r s)+h.b*(mapY r s*e+r.by_*n*Z7 r s)=(h.a*r.bx+h.b*r.by_)*n*Z7 r s+(h.a*mapX r s+h.b*mapY r s)*e:=by grind
 have e2:(h.c*Z7 r s-h.a*mapX r s-h.b*mapY r s)*e=h.c*(Z7 r s*e)-(h.a*mapX r s+h.b*mapY r s)*e:=by grind
 omega
theorem poly_ne {a b c t:Int} (h:¬(a=0/\b=0/\c=0)) (ht:((a.natAbs+b.natAbs+c.natAbs:Nat):Int)<t):a+t*b+t*t*c≠0:=by
 intro e;apply h;have ha:a=0:=by
  have hd:t ∣ a:=⟨-(b+t*c),by grind⟩;exact Int.eq_zero_of_dvd_of_natAbs_lt_natAbs hd (by omega)
 subst ha;have e1:t*(b+t*c)=0:=by grind
 have e2:b+t*c=0:=(Int.mul_eq_zero.1 e1).resolve_left (by omega);have hb:b=0:=by
  have hd:t ∣ b:=⟨-c,by grind⟩;exact Int.eq_zero_of_dvd_of_natAbs_lt_natAbs hd (by omega)
 subst hb;refine ⟨rfl,rfl, ?_⟩;rw [Int.zero_add] at e2;exact (Int.mul_eq_zero.1 e2).resolve_left (by omega)
theorem ex_bd1 (f:Nat->Nat):∀ n,∃ T:Nat,∀ i,i<n->f i<T
 | 0=>⟨0,λ i h=>by omega⟩
 | n+1=>by
  obtain ⟨T,h⟩:=ex_bd1 f n;refine ⟨T+f n+1,λ i hi=>?_⟩;by_cases e:i=n
  ·rw [e];omega
  ·have:=h i (by omega);omega
theorem ex_bd2 (f:Nat->Nat->Nat) (n:Nat):∀ m,∃ T:Nat,∀ i,i<m->∀ j,j<n->f i j<T
 | 0=>⟨0,λ i h=>by omega⟩
 | m+1=>by
  obtain ⟨T,h⟩:=ex_bd2 f n m;obtain ⟨U,k⟩:=ex_bd1 (f m) n;refine ⟨T+U,λ i hi j hj=>?_⟩;by_cases e:i=m
  ·rw [e];have:=k j hj;omega
  ·have:=h i (by omega) j hj;omega
theorem frac_lt {a b c d e f:Int} (hb:0<b) (hd:0<d) (hf:0<f) (h1:a*d<=c*b) (h2:c*f<e*d):a*f<e*b:=by
 have p1:=Int.mul_le_mul_of_nonneg_right h1 (Int.le_of_lt hf);have p2:=Int.mul_lt_mul_of_pos_right h2 hb;have e1:a*d*f=a*f*d:=by grind
 have e2:c*b*f=c*f*b:=by grind
 have e3:e*d*b=e*b*d:=by grind
 have:a*f*d<e*b*d:=by omega
 exact Int.lt_of_mul_lt_mul_right this (by omega)
theorem arg_max (N D:Nat->Int):∀ n,(∀ i,i<n+1->0<D i)->∃ k,k<n+1/\(∀ j,j<n+1->N j*D k<=N k*D j)/\∀ j,j<k->N j*D k<N k*D j
 | 0,_=>⟨0,by omega,λ j hj=>by rw [show j=0 by omega];exact Int.le_refl _,λ j hj=>by omega⟩
 | n+1,h=>by
  obtain ⟨k,hk,h1,h2⟩:=arg_max N D n (λ i hi=>h i (by omega));have dk:=h k (by omega);have dn:=h (n+1) (by omega);by_cases hc:N k*D (n+1)<N (n+1)*D k
  ·have all:∀ j,j<n+1->N j*D (n+1)<N (n+1)*D j:=λ j hj=>frac_lt (h j (by omega)) dk dn (h1 j hj) hc;refine ⟨n+1,by omega,λ j hj=>?_,all⟩;by_cases e:j=n+1
   ·rw [e];exact Int.le_refl _
   ·exact Int.le_of_lt (all j (by omega))
  ·refine ⟨k,by omega,λ j hj=>?_,h2⟩;by_cases e:j=n+1
   ·rw [e];omega
   ·exact h1 j (by omega)
def Kc (q o:Xm) (x y d:Int):Int:=(q.a*x+q.b*y+q.c*d)*o.d-(o.a*x+o.b*y+o.c*d)*q.d
def sameP (q o:Xm):Prop:=q.a*o.d=o.a*q.d/\q.b*o.d=o.b*q.d/\q.c*o.d=o.c*q.d
theorem gap_zero {q o:Xm} {x0 y0 d0 x1 y1 d1 x2 y2 d2:Int} (Ya:det3 x0 y0 d0 x1 y1 d1 x2 y2 d2≠0) (h0:Kc q o x0 y0 d0=0) (h1:Kc q o x1 y1 d1=0) (h2:Kc q o x2 y2 d2=0):sameP q o:=by
 have a0:(q.a*o.d-o.a*q.d)*x0+(q.b*o.d-o.b*q.d)*y0+(q.c*o.d-o.c*q.d)*d0=0:=by rw [<- h0];unfold Kc;grind
 have a1:(q.a*o.d-o.a*q.d)*x1+(q.b*o.d-o.b*q.d)*y1+(q.c*o.d-o.c*q.d)*d1=0:=by rw [<- h1];unfold Kc;grind
 have a2:(q.a*o.d-o.a*q.d)*x2+(q.b*o.d-o.b*q.d)*y2+(q.c*o.d-o.c*q.d)*d2=0:=by rw [<- h2];unfold Kc;grind
 clear h0 h1 h2;unfold sameP;generalize ha:q.a*o.d-o.a*q.d=A at *;generalize hb:q.b*o.d-o.b*q.d=B at *;generalize hc:q.c*o.d-o.c*q.d=C at *;have kA:A*det3 x0 y0 d0 x1 y1 d1 x2 y2 d2=(A*x0+B*y0+C*d0)*(y1*d2-y2*d1)-(A*x1+B*y1+C*d1)*(y0*d2-y2*d0)+(A*x2+B*y2+C*d2)*(y0*d1-y1*d0):=by unfold det3;grind
 have kB:B*det3 x0 y0 d0 x1 y1 d1 x2 y2 d2 = -(A*x0+B*y0+C*d0)*(x1*d2-x2*d1)+(A*x1+B*y1+C*d1)*(x0*d2-x2*d0)-(A*x2+B*y2+C*d2)*(x0*d1-x1*d0):=by unfold det3;grind
 have kC:C*det3 x0 y0 d0 x1 y1 d1 x2 y2 d2=(A*x0+B*y0+C*d0)*(x1*y2-x2*y1)-(A*x1+B*y1+C*d1)*(x0*y2-x2*y0)+(A*x2+B*y2+C*d2)*(x0*y1-x1*y0):=by unfold det3;grind
 rw [a0,a1,a2] at kA kB kC;simp only [Int.zero_mul,Int.neg_zero,Int.sub_zero,Int.add_zero] at kA kB kC;have zA:=(Int.mul_eq_zero.1 kA).resolve_right Ya;have zB:=(Int.mul_eq_zero.1 kB).resolve_right Ya;have zC:=(Int.mul_eq_zero.1 kC).resolve_right Ya;omega
structure TopP (p:List Half) (L:Nat->Xm) (n:Nat) (x y d:Int) (k:Nat) (X Y D:Int):Prop where
 lt:k<n+1
 pos:0<D
 inner:∀ f∈Yj++p,f.a*X+f.b*Y<f.c*D
 here:∀ j,j<n+1->0<=Kc (L k) (L j) x y d
 near:∀ j,j<n+1->sameP (L k) (L j)∨0<Kc (L k) (L j) X Y D
 first:∀ j,j<k->0<Kc (L k) (L j) X Y D
theorem cover {p:List Half} (hp:Xc p=true) (hne:p≠[]) {L:Nat->Xm} {n:Nat} (hL:∀ i,i<n+1->0<(L i).d) {x y d:Int} (hd:0<d) (hs:InP p x y d):∃ k X Y D,TopP p L n x y d k X Y D:=by
 obtain ⟨x0,y0,d0,x1,y1,d1,x2,y2,d2,⟨p0,p1,p2⟩,Ya,i0,i1,i2⟩:=reg_three hp hne;obtain ⟨T,hT⟩:=ex_bd2 (λ i j=>(Kc (L i) (L j) x0 y0 d0).natAbs+(Kc (L i) (L j) x1 y1 d1).natAbs+(Kc (L i) (L j) x2 y2 d2).natAbs) (n+1) (n+1);have hT0:=hT 0 (by omega) 0 (by omega);obtain ⟨t,ht⟩:∃ t:Int,t=(T:Int):=⟨_,rfl⟩;have t1:1<=t:=by omega
 have tt:0<t*t:=Int.mul_pos (by omega) (by omega);obtain ⟨Zx,eX⟩:∃ Z,Z=x0+t*x1+t*t*x2:=⟨_,rfl⟩;obtain ⟨Zy,eY⟩:∃ Z,Z=y0+t*y1+t*t*y2:=⟨_,rfl⟩;obtain ⟨Zd,eD⟩:∃ Z,Z=d0+t*d1+t*t*d2:=⟨_,rfl⟩;have gz:∀ i j,Kc (L i) (L j) Zx Zy Zd=Kc (L i) (L j) x0 y0 d0+t*Kc (L i) (L j) x1 y1 d1+t*t*Kc (L i) (L j) x2 y2 d2:=λ i j=>by rw [eX,eY,eD];unfold Kc;grind
 have gn:∀ i,i<n+1->∀ j,j<n+1->sameP (L i) (L j)∨Kc (L i) (L j) Zx Zy Zd≠0:=by
  intro i hi j hj;have b:=hT i hi j hj;rw [gz];by_cases hz:Kc (L i) (L j) x0 y0 d0=0/\Kc (L i) (L j) x1 y1 d1=0/\Kc (L i) (L j) x2 y2 d2=0
  ·exact .inl (gap_zero Ya hz.1 hz.2.1 hz.2.2)
  ·exact .inr (poly_ne hz (by rw [ht];exact Int.ofNat_lt.2 b))
 have Zpos:0<Zd:=by
  have m1:=Int.mul_pos (show 0<t by omega) p1;have m2:=Int.mul_pos tt p2;omega
 have hdet2:det3 x0 y0 d0 (t*x1) (t*y1) (t*d1) (t*t*x2) (t*t*y2) (t*t*d2)≠0:=by
  have e:det3 x0 y0 d0 (t*x1) (t*y1) (t*d1) (t*t*x2) (t*t*y2) (t*t*d2)=t*(t*t)*det3 x0 y0 d0 x1 y1 d1 x2 y2 d2:=by unfold det3;grind
  rw [e];exact Int.mul_ne_zero (Int.ne_of_gt (Int.mul_pos (by omega) tt)) Ya
 have sc:∀ {f:Half} {u v e k:Int},0<k->Yp f u v e->Yp f (k*u) (k*v) (k*e):=by
  intro f u v e k hk h;unfold Yp at h ⊢;have m:=Int.mul_le_mul_of_nonneg_left h (Int.le_of_lt hk);have e1:f.a*(k*u)+f.b*(k*v)=k*(f.a*u+f.b*v):=by grind
  have e2:f.c*(k*e)=k*(f.c*e):=by grind
  rw [e1,e2];exact m
 have hok:=Z1 hp;have all:∀ {u v e:Int},0<e->InP p u v e->InP (Yj++p) u v e:=λ he h=>inP_app.2 ⟨reg_frame hp hne (by omega) h,h⟩;have Zin:∀ f∈Yj++p,f.a*Zx+f.b*Zy<f.c*Zd:=by
  intro f hf;have h:=inner_of (KE (Ze hok f hf)).n hdet2 (all p0 i0 f hf) (sc (by omega) (all p1 i1 f hf)) (sc tt (all p2 i2 f hf));rw [eX,eY,eD];exact h
 obtain ⟨M,hM⟩:=ex_bd2 (λ i j=>(Kc (L i) (L j) Zx Zy Zd).natAbs) (n+1) (n+1);have hM0:=hM 0 (by omega) 0 (by omega);obtain ⟨m,hm⟩:∃ m:Int,m=(M:Int):=⟨_,rfl⟩;have m1:1<=m:=by omega
 have gw:∀ i j,Kc (L i) (L j) (m*x+Zx) (m*y+Zy) (m*d+Zd)=m*Kc (L i) (L j) x y d+Kc (L i) (L j) Zx Zy Zd:=λ i j=>by unfold Kc;grind
 obtain ⟨k,hk,h1,h2⟩:=arg_max (λ j=>(L j).a*(m*x+Zx)+(L j).b*(m*y+Zy)+(L j).c*(m*d+Zd)) (λ j=>(L j).d) n hL;have ge:∀ j,j<n+1->0<=Kc (L k) (L j) (m*x+Zx) (m*y+Zy) (m*d+Zd):=λ j hj=>by
  have:=h1 j hj;unfold Kc;omega
 have here:∀ j,j<n+1->0<=Kc (L k) (L j) x y d:=by
  intro j hj;have g:=ge j hj;rw [gw] at g;have b:=hM k hk j hj;by_cases hc:0<=Kc (L k) (L j) x y d
  ·exact hc
  ·exfalso;have:=Int.mul_le_mul_of_nonneg_left (show Kc (L k) (L j) x y d<=-1 by omega) (show 0<=m by omega);omega
 refine ⟨k,m*x+Zx,m*y+Zy,m*d+Zd,hk, ?_, ?_,here,λ j hj=>?_,λ j hj=>?_⟩
 ·have:=Int.mul_pos (show 0<m by omega) hd;omega
 ·intro f hf;have a:=all hd hs f hf;have b:=Zin f hf;have c:=sc (show 0<m by omega) a;unfold Yp at c;rw [Int.mul_add,Int.mul_add,Int.mul_add];omega
 ·rcases gn k hk j hj with h|h
  ·exact .inl h
  ·right;have g:=ge j hj;have hz:=here j hj;rw [gw] at g ⊢;have b:=hM k hk j hj;by_cases hc:Kc (L k) (L j) x y d=0
   ·rw [hc,Int.mul_zero] at g ⊢;omega
   ·have:=Int.mul_le_mul_of_nonneg_left (show 1<=Kc (L k) (L j) x y d by omega) (show 0<=m by omega);omega
 ·have:=h2 j hj;unfold Kc;omega
end Go.Proofs.YtbekjpkcicjcgabGreat
