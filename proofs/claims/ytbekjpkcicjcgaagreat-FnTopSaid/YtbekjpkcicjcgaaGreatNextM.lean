/-
 The next spot of a room and a step of the loop: what both compute. No program is named here.
 Conditions: none.
-/
import Derived.Test.YtbekjpkcicjcgaaGreatV4
import Derived.Test.YtbekjpkcicjcgaaGreatRows
import Derived.Deep.QuietTactic
import Derived.BigQuiet
import Derived.Test.YtbekjpkcicjcgaaGreatPtg
namespace Go.Proofs.YtbekjpkcicjcgaaGreat
open Go.RowKit
def drivenOk (u:XW):Bool:=Xh u&&ZT u.n (-1000*u.d) (1000*u.d)
def nxtX (r:XD) (s:XH) (u:XW) (v:XH):Int:=(KM r s*u.d+r.bx*u.n*Ya r s)*v.d+v.x*(Ya r s*u.d)
def nxtY (r:XD) (s:XH) (u:XW) (v:XH):Int:=(KT r s*u.d+r.by_*u.n*Ya r s)*v.d+v.y*(Ya r s*u.d)
def nxtD (r:XD) (s:XH) (u:XW) (v:XH):Int:=Ya r s*u.d*v.d
def nxtS (r:XD) (s:XH) (u:XW) (v:XH):Option XH:=Y9 (nxtX r s u v) (nxtY r s u v) (nxtD r s u v)
def nxtBad (r:XD) (s:XH) (u:XW) (v:XH):Bool:=!(XJ r) || !(Xo s) || !(Xh u) || !(Xo v)||decide (s.d > 100000)||decide (v.d > 1000)||decide (u.d > 1000) || !(ZT u.n (-1000*u.d) (1000*u.d))
def ZO (r:XD) (s:XH) (u:XW) (v:XH):Option XH:=if nxtBad r s u v=true then none else nxtS r s u v
def nxtBadI (s:XH) (u:XW) (v:XH):Bool:=!(Xo s) || !(Xo v)||decide (s.d > 100000)||decide (v.d > 1000)||decide (u.d > 1000) || !(drivenOk u)
theorem nxtBad_i {r:XD} {s:XH} {u:XW} {v:XH} (hr:XJ r=true):nxtBad r s u v=nxtBadI s u v:=by
 unfold nxtBad nxtBadI drivenOk;rw [hr];generalize Xo s=a;generalize Xo v=b;generalize Xh u=c;generalize ZT u.n (-1000*u.d) (1000*u.d)=d;cases a<;>cases b<;>cases c<;>cases d<;>simp
theorem nxt_no {r:XD} {s:XH} {u:XW} {v:XH} (h:nxtBad r s u v=true):ZO r s u v=none:=if_pos h
theorem nxt_yes {r:XD} {s:XH} {u:XW} {v:XH} (h:nxtBad r s u v=false):ZO r s u v=nxtS r s u v:=if_neg (by rw [h];simp)
structure NxtIn (r:XD) (s:XH) (u:XW) (v:XH):Prop where
 room:XJ r=true
 sok:Xo s=true
 vok:Xo v=true
 sd:s.d<=100000
 vd:v.d<=1000
 ud:1<=u.d/\u.d<=1000
 un : -1000*u.d<=u.n/\u.n<=1000*u.d
theorem nxt_in {r:XD} {s:XH} {u:XW} {v:XH} (h:nxtBad r s u v=false):NxtIn r s u v:=by
 have h1:=JB h;have h2:=JB h1;have h3:=JB h2;have h4:=JB h3;have h5:=JB h4;have h6:=JB h5;have hu:=rok_bd (YT (or_f2 h5));have e:=Y3.1 (YT (or_f2 h));have d1:=Jr (or_f2 h1);have d2:=Jr (or_f2 h2);have d3:=Jr (or_f2 h3);exact ⟨YT (JB h6),YT (or_f2 h6),YT (or_f2 h4),Oz,Oz,⟨Oz,Oz⟩,e⟩
theorem nxt_bd {M D b n d x e:Int} (hM : -4000000000<=M/\M<=4000000000) (hD:1<=D/\D<=2000000) (hb : -100<=b/\b<=100) (hd:1<=d/\d<=1000) (hn : -1000*d<=n/\n<=1000*d) (he:1<=e/\e<=1000) (hx : -1000*e<=x/\x<=1000*e) :
 (-4000000000000<=M*d/\M*d<=4000000000000)/\(-100000000<=b*n/\b*n<=100000000)/\(-200000000000000<=b*n*D/\b*n*D<=200000000000000)/\(1<=D*d/\D*d<=2000000000)
 /\(-204000000000000000<=(M*d+b*n*D)*e/\(M*d+b*n*D)*e<=204000000000000000)/\(-2000000000000000<=x*(D*d)/\x*(D*d)<=2000000000000000)/\(1<=D*d*e/\D*d*e<=2000000000000):=by
 have a1:=JE (a:=M) (b:=d) (A:=4000000000) (B:=1000) ⟨Oz,Oz⟩ ⟨Oz,Oz⟩;have a2:=JE (a:=b) (b:=n) (A:=100) (B:=1000000) ⟨Oz,Oz⟩ ⟨Oz,Oz⟩;have a3:=JE (a:=b*n) (b:=D) (A:=100000000) (B:=2000000) ⟨Oz,Oz⟩ ⟨Oz,Oz⟩;have a4:=JE (a:=D) (b:=d) (A:=2000000) (B:=1000) ⟨Oz,Oz⟩ ⟨Oz,Oz⟩;have a5:=Int.mul_pos (show 0<D by omega) (show 0<d by omega);have a6:=JE (a:=M*d+b*n*D) (b:=e) (A:=204000000000000) (B:=1000) ⟨Oz,Oz⟩ ⟨Oz,Oz⟩;have a7:=JE (a:=x) (b:=D*d) (A:=1000000) (B:=2000000000) ⟨Oz,Oz⟩ ⟨Oz,Oz⟩;have a8:=JE (a:=D*d) (b:=e) (A:=2000000000) (B:=1000) ⟨Oz,Oz⟩ ⟨Oz,Oz⟩;have a9:=Int.mul_pos a5 (show 0<e by omega);exact ⟨⟨Oz,Oz⟩,⟨Oz,Oz⟩,⟨Oz,Oz⟩,⟨Oz,Oz⟩,⟨Oz,Oz⟩,⟨Oz,Oz⟩,⟨Oz,Oz⟩⟩
theorem optSpot_eq (x:Option XH):optSpotV x=.tuple #[Yu (x.getD Yi),.bool x.isSome]:=by cases x<;>rfl
theorem rp_eq {r:XD} {p:List Half} (hr:XJ r=true) (hp:Xc p=true):rpOk r p=Zw (Z3 r.noise) p/\Jl r p=Z0 r p:=by
 unfold rpOk Jl Z0;rw [hr,hp,if_pos ⟨rfl,rfl⟩];exact ⟨rfl,rfl⟩
def cellB (t:JI) (i j:Int):Bool:=decide (0<=i)&&decide (i<t.nx)&&decide (0<=j)&&decide (j<t.ny)
def Xg (t:JI) (i j:Int):List XH:=[⟨t.x0+i*t.step,t.y0+j*t.step,1⟩,⟨t.x0+i*t.step+t.step,t.y0+j*t.step,1⟩,⟨t.x0+i*t.step+t.step,t.y0+j*t.step+t.step,1⟩,⟨t.x0+i*t.step,t.y0+j*t.step+t.step,1⟩]
structure CellB (t:JI) (i j:Int):Prop where
 x : -1000<=t.x0/\t.x0<=1000
 y : -1000<=t.y0/\t.y0<=1000
 s:1<=t.step/\t.step<=100
 is:0<=i*t.step/\i*t.step<=10000
 js:0<=j*t.step/\j*t.step<=10000
theorem cellB_bd {t:JI} {i j:Int} (h:Yw t=true) (hb:cellB t i j=true):CellB t i j:=by
 obtain ⟨g1,g2,g3,g4,g5,_⟩:=Kg.1 h;simp only [cellB,Bool.and_eq_true,decide_eq_true_eq] at hb;obtain ⟨⟨⟨h1,h2⟩,h3⟩,h4⟩:=hb;have m1:=mul_bd (a:=i) (b:=t.step) (A:=100) (B:=100) Oz Oz;have m2:=mul_bd (a:=j) (b:=t.step) (A:=100) (B:=100) Oz Oz;exact ⟨g1,g2,g3,⟨Int.mul_nonneg h1 Oz,Oz⟩,⟨Int.mul_nonneg h3 Oz,Oz⟩⟩
theorem cellNew {T base g:Nat} (w:World) (t:JI) (i j:Int) (hg:g=w.heap.size) (hb:base<=w.heap.size):XG T 3 Kz (w.alloc (.cells #[.int .i64 (t.x0+i*t.step),.int .i64 (t.y0+j*t.step),.int .i64 1,.int .i64 (t.x0+i*t.step+t.step),.int .i64 (t.y0+j*t.step),.int .i64 1,.int .i64 (t.x0+i*t.step+t.step),.int .i64 (t.y0+j*t.step+t.step),.int .i64 1,.int .i64 (t.x0+i*t.step),.int .i64 (t.y0+j*t.step+t.step),.int .i64 1] T)) base (.slice (some ⟨g,0,none⟩) 4 4) (Xg t i j):=by
 subst hg;exact ⟨_,4,rfl,Y5 Jf _,.inr ⟨w.heap.size,4,_,rfl,hb,heap_alloc_new w _,Nat.le_refl 4,Dz,rfl,rfl⟩⟩
set_option maxRecDepth 100000 in
theorem iCnrs_c (t:JI) (A:Option Addr) (cap:Nat) (i j:Int) (w:World) (hb:CellB t i j) :
 Calls Tryz.prog 113 #[tabV t A cap,.int .i64 i,.int .i64 j] w λ e w'=>∃ v,e=.returned v/\XG 30 3 Kz w' w.heap.size v (Xg t i j)/\Below w.heap.size w w':=by
 obtain ⟨⟨b1,b2⟩,⟨b3,b4⟩,⟨b5,b6⟩,⟨b7,b8⟩,⟨b9,b10⟩⟩:=hb;go_enter Tryz.func113,Tryz.ntmps113
 go_wp2
 go_big_quiet (fail)
 go_wp2
 go_big_quiet (fail)
 go_wp2
 go_ret
 refine ⟨.slice (some ⟨w.heap.size+1,0,none⟩) 4 4,rfl, ?_, ?_⟩
 ·exact cellNew _ t i j Sz Sz
 ·exact Xw
def Btw (w:YQ) (n e:Int):Prop:=w.low.n*e<=n*w.low.d/\n*w.high.d<=w.high.n*e
theorem cmp_le {r s:XW} (hr:Xh r=true) (hs:Xh s=true):XF r s<=0 ↔ r.n*s.d<=s.n*r.d:=by
 rw [cmp_def hr hs,gsgn_le];omega
theorem JY {r:XW} (h:Xh r=true):1<=r.d:=(ratioOk_bd h).1.1
theorem spanOk_le {w:YQ} (h:XN w=true):w.low.n*w.high.d<=w.high.n*w.low.d:=by
 have h2:=Jz h;unfold XN at h;simp only [Bool.and_eq_true,decide_eq_true_eq] at h;exact (cmp_le h2.1 h2.2).1 h.2
theorem spanOk_mk {w:YQ} (h1:Xh w.low=true) (h2:Xh w.high=true) (h:w.low.n*w.high.d<=w.high.n*w.low.d):XN w=true:=by
 unfold XN;rw [h1,h2,decide_eq_true ((cmp_le h1 h2).2 h)];rfl
theorem inSpan_iff {w:YQ} {u:XW} (hw:XN w=true) (hu:Xh u=true):JZ w u=true ↔ Btw w u.n u.d:=by
 have h2:=Jz hw;unfold JZ Btw;rw [hw,hu];simp only [Bool.true_and,Bool.and_eq_true,decide_eq_true_eq];rw [cmp_le h2.1 hu,cmp_le hu h2.2]
theorem btw_low {w:YQ} (hw:XN w=true):Btw w w.low.n w.low.d:=⟨Int.le_refl _,spanOk_le hw⟩
theorem btw_high {w:YQ} (hw:XN w=true):Btw w w.high.n w.high.d:=⟨spanOk_le hw,Int.le_refl _⟩
theorem btw_ok {w:YQ} {n e:Int} (h1:Xh w.low=true) (h2:Xh w.high=true) (he:0<e) (h:Btw w n e):XN w=true :=
 spanOk_mk h1 h2 (Ko (a:=w.low.n) (b:=w.low.d) (c:=n) (d:=e) (e:=w.high.n) (f:=w.high.d) he (by have:=JY h1;omega) (by have:=JY h2;omega) h.1 h.2)
theorem maxR_le {a b:XW} (ha:Xh a=true) (hb:Xh b=true) {n e:Int} (he:0<e):(Ys a b).n*e<=n*(Ys a b).d ↔ a.n*e<=n*a.d/\b.n*e<=n*b.d:=by
 have pa:=JY ha;have pb:=JY hb;unfold Ys;rw [if_pos ⟨ha,hb⟩];split
 ·rename_i h
  rw [cmp_def ha hb,gsgn_ge] at h;exact ⟨λ k=>⟨k,Ko (a:=b.n) (b:=b.d) (c:=a.n) (d:=a.d) (e:=n) (f:=e) Oz Oz Oz Oz k⟩,λ k=>k.1⟩
 ·rename_i h
  rw [cmp_def ha hb,gsgn_ge] at h;exact ⟨λ k=>⟨Ko (a:=a.n) (b:=a.d) (c:=b.n) (d:=b.d) (e:=n) (f:=e) Oz Oz Oz Oz k,k⟩,λ k=>k.2⟩
theorem minR_ge {a b:XW} (ha:Xh a=true) (hb:Xh b=true) {n e:Int} (he:0<e):n*(Yr a b).d<=(Yr a b).n*e ↔ n*a.d<=a.n*e/\n*b.d<=b.n*e:=by
 have pa:=JY ha;have pb:=JY hb;unfold Yr;rw [if_pos ⟨ha,hb⟩];split
 ·rename_i h
  rw [cmp_def ha hb,gsgn_le] at h;exact ⟨λ k=>⟨k,Ko (a:=n) (b:=e) (c:=a.n) (d:=a.d) (e:=b.n) (f:=b.d) Oz Oz Oz k Oz⟩,λ k=>k.1⟩
 ·rename_i h
  rw [cmp_def ha hb,gsgn_le] at h;exact ⟨λ k=>⟨Ko (a:=n) (b:=e) (c:=b.n) (d:=b.d) (e:=a.n) (f:=a.d) Oz Oz Oz k Oz,k⟩,λ k=>k.2⟩
theorem of_le {t d n e:Int} (ht : -1000000000000000000<=t/\t<=1000000000000000000) (hd:1<=d/\d<=1000000000000000):Xh (XT t d)=true/\((XT t d).n*e<=n*(XT t d).d ↔ t*e<=n*d)/\(n*(XT t d).d<=(XT t d).n*e ↔ n*d<=t*e):=by
 obtain ⟨ok,k,hk,e1,e2⟩:=ZE ht hd;generalize (XT t d).n=N at *;generalize (XT t d).d=D at *;have a1:t*e=k*(N*e):=by rw [e1,Int.mul_assoc]
 have a2:n*d=k*(n*D):=by rw [e2,Int.mul_left_comm]
 refine ⟨ok, ?_, ?_⟩
 ·rw [a1,a2];exact ⟨λ h=>Int.mul_le_mul_of_nonneg_left h Oz,λ h=>Int.le_of_mul_le_mul_left h hk⟩
 ·rw [a1,a2];exact ⟨λ h=>Int.mul_le_mul_of_nonneg_left h Oz,λ h=>Int.le_of_mul_le_mul_left h hk⟩
def AdmH (r:XD) (s:XH) (h:Half) (n e:Int):Prop:=YO r h*n*Ya r s<=topA r s h*e
theorem admStep_btw {r:XD} {s:XH} {h:Half} (M:MapB r s) (P:AdmP r s h) {v:YQ} (h1:Xh v.low=true) (h2:Xh v.high=true) :
 (∀ w,Kc r s v h=some w->(Xh w.low=true/\Xh w.high=true)/\∀ n e,0<e->(Btw w n e ↔ Btw v n e/\AdmH r s h n e))/\((YO r h=0->0<=topA r s h)->∃ w,Kc r s v h=some w):=by
 unfold Kc;split
 ·rename_i hn
  obtain ⟨t,d⟩:=adm_high P M hn;refine ⟨λ w hw=>?_,λ _=>⟨_,rfl⟩⟩;injection hw with hw
  have o:=(of_le (n:=0) (e:=1) t d).1;subst hw;refine ⟨⟨h1,ratioMin_ok h2 o⟩,λ n e he=>?_⟩;unfold Btw AdmH;simp only;rw [minR_ge h2 o he,(of_le (n:=n) (e:=e) t d).2.2];have e1:YO r h*n*Ya r s=n*(Ya r s*YO r h):=by grind
  rw [e1];exact ⟨λ k=>⟨⟨k.1,k.2.1⟩,k.2.2⟩,λ k=>⟨k.1.1,k.1.2,k.2⟩⟩
 ·rename_i hn1
  split
  ·rename_i hn
   obtain ⟨t,d⟩:=adm_low P M hn;refine ⟨λ w hw=>?_,λ _=>⟨_,rfl⟩⟩;injection hw with hw
   have o:=(of_le (n:=0) (e:=1) t d).1;subst hw;refine ⟨⟨ratioMax_ok h1 o,h2⟩,λ n e he=>?_⟩;unfold Btw AdmH;simp only;rw [maxR_le h1 o he,(of_le (n:=n) (e:=e) t d).2.1];have e1:n*(-(Ya r s)*YO r h) = -(YO r h*n*Ya r s):=by grind
   have e2 : -(topA r s h)*e = -(topA r s h*e):=Int.neg_mul _ _;rw [e1,e2];exact ⟨λ k=>⟨⟨k.1.1,k.2⟩,Oz⟩,λ k=>⟨⟨k.1.1,Oz⟩,k.1.2⟩⟩
  ·rename_i hn2
   have h0:YO r h=0:=Oz
   split
   ·rename_i ht
    exact ⟨λ w hw=>(by cases hw),λ k=>absurd (k h0) Oz⟩
   ·rename_i ht
    refine ⟨λ w hw=>?_,λ _=>⟨_,rfl⟩⟩;injection hw with hw
    subst hw;refine ⟨⟨h1,h2⟩,λ n e he=>?_⟩;unfold AdmH;rw [h0,Int.zero_mul,Int.zero_mul];exact ⟨λ k=>⟨k,Int.mul_nonneg Oz Oz⟩,λ k=>k.1⟩
theorem adm_fold {r:XD} {s:XH} (B:RoomB r) (M:MapB r s):∀ (l:List Half) (v:YQ),(∀ h∈l,Xs h=true)->Xh v.low=true->Xh v.high=true ->
 (∀ w,l.foldl (λ o h=>o.bind λ w=>Kc r s w h) (some v)=some w->(Xh w.low=true/\Xh w.high=true)/\∀ n e,0<e->(Btw w n e ↔ Btw v n e/\∀ h∈l,AdmH r s h n e))/\((∀ h∈l,YO r h=0->0<=topA r s h)->∃ w,l.foldl (λ o h=>o.bind λ w=>Kc r s w h) (some v)=some w)
 | [],v,_,h1,h2=>by
  refine ⟨λ w hw=>?_,λ _=>⟨v,rfl⟩⟩;injection hw with hw
  subst hw;exact ⟨⟨h1,h2⟩,λ n e _=>⟨λ k=>⟨k,λ h hh=>by cases hh⟩,λ k=>k.1⟩⟩
 | h :: l,v,hl,h1,h2=>by
  obtain ⟨S1,S2⟩:=admStep_btw M (admP B M (hl h (List.mem_cons_self ..))) h1 h2;have fold_none:∀ l:List Half,l.foldl (λ o h=>o.bind λ w=>Kc r s w h) (none:Option YQ)=none:=by
   intro l;induction l with
   | nil=>rfl
   | cons x t ih=>exact ih
  constructor
  ·intro w hw;rw [List.foldl_cons,Option.bind_some] at hw;cases e:Kc r s v h with
   | none=>rw [e,fold_none] at hw;cases hw
   | some u =>
    rw [e] at hw;obtain ⟨⟨u1,u2⟩,ub⟩:=S1 u e;obtain ⟨wo,wb⟩:=(adm_fold B M l u (λ k hk=>hl k (List.mem_cons_of_mem _ hk)) u1 u2).1 w hw;refine ⟨wo,λ n e he=>?_⟩;rw [wb n e he,ub n e he];constructor
    ·rintro ⟨⟨k1,k2⟩,k3⟩;refine ⟨k1,λ g hg=>?_⟩;rcases List.mem_cons.1 hg with rfl|hg
     ·exact k2
     ·exact k3 g hg
    ·rintro ⟨k1,k2⟩;exact ⟨⟨k1,k2 h (List.mem_cons_self ..)⟩,λ g hg=>k2 g (List.mem_cons_of_mem _ hg)⟩
  ·intro h0;obtain ⟨u,e⟩:=S2 (h0 h (List.mem_cons_self ..));obtain ⟨⟨u1,u2⟩,_⟩:=S1 u e;rw [List.foldl_cons,Option.bind_some,e];exact (adm_fold B M l u (λ k hk=>hl k (List.mem_cons_of_mem _ hk)) u1 u2).2 (λ k hk=>h0 k (List.mem_cons_of_mem _ hk))
structure AdmS (r:XD) (E:List Half) (s:XH) (w:YQ):Prop where
 ok:XN w=true
 btw:∀ n e,0<e->(Btw w n e ↔ (r.low*e<=n/\n<=r.high*e)/\∀ h∈E,AdmH r s h n e)
theorem btw0 {r:XD} {n e:Int}:Btw ⟨⟨r.low,1⟩,⟨r.high,1⟩⟩ n e ↔ r.low*e<=n/\n<=r.high*e:=by
 unfold Btw;simp only [Int.mul_one]
theorem admit_btw {r:XD} {E:List Half} {s:XH} (hr:XJ r=true) (hs:Xo s=true) (hE:∀ h∈E,Xs h=true) {w:YQ} (h:Ym r E s=some w):AdmS r E s w:=by
 have B:=JX hr;have ok:=Ja h;unfold Ym at h;split at h
 ·cases h
 ·rename_i hd
  have M:=mapB B hs Oz;have F:=(adm_fold B M E ⟨⟨r.low,1⟩,⟨r.high,1⟩⟩ hE (one_ok B.low) (one_ok ⟨by have:=B.low;have:=B.high;omega,by have:=B.high;omega⟩)).1;cases e:admL r s E with
  | none=>rw [e] at h;cases h
  | some v =>
   rw [e,Option.bind_some] at h;split at h
   ·injection h with h
    subst h;refine ⟨ok,λ n e' he=>?_⟩;rw [(F v e).2 n e' he,btw0]
   ·cases h
theorem admit_some {r:XD} {E:List Half} {s:XH} (hr:XJ r=true) (hs:Xo s=true) (hd:s.d<=100000) (hE:∀ h∈E,Xs h=true) {n e:Int} (he:0<e) (h1:r.low*e<=n) (h2:n<=r.high*e) (hA:∀ h∈E,AdmH r s h n e):∃ w,Ym r E s=some w/\Btw w n e:=by
 have B:=JX hr;have M:=mapB B hs hd;have F:=adm_fold B M E ⟨⟨r.low,1⟩,⟨r.high,1⟩⟩ hE (one_ok B.low) (one_ok ⟨by have:=B.low;have:=B.high;omega,by have:=B.high;omega⟩);obtain ⟨w,hw⟩:=F.2 (λ h hh h0=>by
  have:=hA h hh;unfold AdmH at this;rw [h0,Int.zero_mul,Int.zero_mul] at this;exact gmn (a:=e) (by rw [Int.mul_comm];exact this) he)
 obtain ⟨⟨o1,o2⟩,hb⟩:=F.1 w hw;have hbt:Btw w n e:=(hb n e he).2 ⟨btw0.2 ⟨h1,h2⟩,hA⟩;refine ⟨w, ?_,hbt⟩;unfold Ym;rw [if_neg Oz,show admL r s E=some w from hw,Option.bind_some,if_pos (btw_ok o1 o2 he hbt)]
theorem admH_iff {r:XD} {s:XH} {h:Half} {n e:Int}:AdmH r s h n e ↔ YJ h (KM r s*e+r.bx*n*Ya r s) (KT r s*e+r.by_*n*Ya r s) (Ya r s*e):=by
 unfold AdmH YJ topA YO;have e1:h.a*(KM r s*e+r.bx*n*Ya r s)+h.b*(KT r s*e+r.by_*n*Ya r s)=(h.a*r.bx+h.b*r.by_)*n*Ya r s+(h.a*KM r s+h.b*KT r s)*e:=by grind
 have e2:(h.c*Ya r s-h.a*KM r s-h.b*KT r s)*e=h.c*(Ya r s*e)-(h.a*KM r s+h.b*KT r s)*e:=by grind
 omega
theorem pre_admit {r:XD} {p:List Half} {s:XH} (hr:XJ r=true) (hb:0<r.bx) (hne:Yj r p≠[]) (hs:Xo s=true) (hd:s.d<=100000) (hi:InP (Yj r p) s.x s.y s.d):∃ w,Ym r (Z0 r p) s=some w:=by
 have P:=pre_pts hr hb hne;have sd:=Jy hs;obtain ⟨_,_,m,e,he,h1,h2,h3⟩:=(P.pts (x:=s.x) (y:=s.y) (d:=s.d) Oz).1 hi;obtain ⟨w,hw,_⟩:=admit_some hr hs hd (Zp (preE_ok r p)) he h1 h2 (λ h hh=>admH_iff.2 (h3 h hh));exact ⟨w,hw⟩
theorem pre_rob {r:XD} {p:List Half} (hr:XJ r=true) (hb:0<r.bx) (hp:Xc p=true) (ok:ZH r p=true) (hne:Yj r p≠[]):Yh r p=true/\Jl r p=Z0 r p:=by
 have P:=pre_pts hr hb hne;obtain ⟨e1,e2⟩:=rp_eq hr hp;have hpn:p.length≠0:=λ e=>P.e (mov_void e).2;unfold ZH preA at ok;simp only [Bool.and_eq_true] at ok;refine ⟨?_,e2⟩;unfold Yh;rw [e1,e2,ok.1.1.1,decide_eq_false hpn,decide_eq_false (λ e=>P.e (List.length_eq_zero_iff.1 e))];rfl
theorem pre_admAt {r:XD} {p:List Half} {s:XH} (hr:XJ r=true) (hb:0<r.bx) (hp:Xc p=true) (ok:ZH r p=true) (hne:Yj r p≠[]) (hs:Xo s=true) (hd:s.d<=100000) (hi:InP (Yj r p) s.x s.y s.d):∃ w,XL r p s=some w:=by
 obtain ⟨h1,h2⟩:=pre_rob hr hb hp ok hne;obtain ⟨w,hw⟩:=pre_admit hr hb hne hs hd hi;exact ⟨w,by unfold XL;rw [if_pos ⟨h1,hs⟩,h2];exact hw⟩
theorem box_lin {A B C x0 x1 y0 y1 x y:Int} (hx:x0<=x/\x<=x1) (hy:y0<=y/\y<=y1) (c1:0<=A*x0+B*y0+C) (c2:0<=A*x1+B*y0+C) (c3:0<=A*x1+B*y1+C) (c4:0<=A*x0+B*y1+C):0<=A*x+B*y+C:=by
 rcases Int.le_total 0 A with hA|hA<;>rcases Int.le_total 0 B with hB|hB
 ·have m1:=Int.mul_le_mul_of_nonneg_left hx.1 hA;have m2:=Int.mul_le_mul_of_nonneg_left hy.1 hB;omega
 ·have m1:=Int.mul_le_mul_of_nonneg_left hx.1 hA;have m2:=Int.mul_le_mul_of_nonpos_left hB hy.2;omega
 ·have m1:=Int.mul_le_mul_of_nonpos_left hA hx.2;have m2:=Int.mul_le_mul_of_nonneg_left hy.1 hB;omega
 ·have m1:=Int.mul_le_mul_of_nonpos_left hA hx.2;have m2:=Int.mul_le_mul_of_nonpos_left hB hy.2;omega
theorem box_adm {r:XD} {h:Half} {n e x0 x1 y0 y1 x y:Int} (hx:x0<=x/\x<=x1) (hy:y0<=y/\y<=y1) (c1:AdmH r ⟨x0,y0,1⟩ h n e) (c2:AdmH r ⟨x1,y0,1⟩ h n e) (c3:AdmH r ⟨x1,y1,1⟩ h n e) (c4:AdmH r ⟨x0,y1,1⟩ h n e):AdmH r ⟨x,y,1⟩ h n e:=by
 have key:∀ x y:Int,AdmH r ⟨x,y,1⟩ h n e ↔ 0<=-((h.a*r.map.getD 0 0+h.b*r.map.getD 2 0)*e)*x + -((h.a*r.map.getD 1 0+h.b*r.map.getD 3 0)*e)*y+(h.c*r.div*e-YO r h*n*r.div):=by
  intro x y;unfold AdmH topA KM KT Ya;simp only [Int.mul_one];have e1:(h.c*r.div-h.a*(r.map.getD 0 0*x+r.map.getD 1 0*y)-h.b*(r.map.getD 2 0*x+r.map.getD 3 0*y))*e = -((h.a*r.map.getD 0 0+h.b*r.map.getD 2 0)*e)*x + -((h.a*r.map.getD 1 0+h.b*r.map.getD 3 0)*e)*y+h.c*r.div*e:=by grind
  omega
 rw [key] at *;exact box_lin hx hy c1 c2 c3 c4
theorem meetSp_btw {a b w:YQ} (h:JM a b=some w) {n e:Int} (he:0<e):Btw w n e ↔ Btw a n e/\Btw b n e:=by
 unfold JM at h;split at h
 ·rename_i q
  injection h with h
  obtain ⟨a1,a2⟩:=Jz q.1;obtain ⟨b1,b2⟩:=Jz q.2.1;subst h;unfold Btw;simp only;rw [maxR_le a1 b1 he,minR_ge a2 b2 he];exact ⟨λ k=>⟨⟨k.1.1,k.2.1⟩,k.1.2,k.2.2⟩,λ k=>⟨⟨k.1.1,k.2.1⟩,k.1.2,k.2.2⟩⟩
 ·cases h
theorem accS_btw {A:XH->Option YQ} {l:List XH} (hA:∀ t v,A t=some v->XN v=true):∀ (k:Nat) (w:YQ),Ky A l (k+1)=some w->XN w=true/\(∀ i,i<k+1->∃ v,A (l.getD i Yi)=some v)/\∀ n e,0<e->(Btw w n e ↔ ∀ i,i<k+1->∀ v,A (l.getD i Yi)=some v->Btw v n e)
 | 0,w,h=>by
  rw [Ky,Ky,Option.bind_some] at h;cases e:A (l.getD 0 Yi) with
  | none=>rw [e] at h;cases h
  | some v =>
   rw [e,Option.bind_some,if_pos rfl] at h;injection h with h
   subst h;refine ⟨hA _ _ e,λ i hi=>⟨v,by rw [show i=0 by omega];exact e⟩,λ n e' _=>⟨λ k i hi u hu=>?_,λ k=>k 0 Oz v e⟩⟩;rw [show i=0 by omega,e] at hu;injection hu with hu
   rw [<- hu];exact k
 | k+1,w,h=>by
  rw [Ky] at h;cases e:Ky A l (k+1) with
  | none=>rw [e] at h;cases h
  | some u =>
   rw [e,Option.bind_some] at h;cases e2:A (l.getD (k+1) Yi) with
   | none=>rw [e2] at h;cases h
   | some v =>
    rw [e2,Option.bind_some,if_neg Oz] at h;obtain ⟨_,i2,i3⟩:=accS_btw hA k u e;refine ⟨meetSp_ok h,λ i hi=>?_,λ n e' he=>?_⟩
    ·by_cases hk:i=k+1
     ·exact ⟨v,by rw [hk];exact e2⟩
     ·exact i2 i Oz
    ·rw [meetSp_btw h he,i3 n e' he];constructor
     ·rintro ⟨k1,k2⟩ i hi x hx;by_cases hk:i=k+1
      ·rw [hk,e2] at hx;injection hx with hx
       rw [<- hx];exact k2
      ·exact k1 i Oz x hx
     ·intro k0;exact ⟨λ i hi=>k0 i Oz,k0 (k+1) Oz v e2⟩
end Go.Proofs.YtbekjpkcicjcgaaGreat
