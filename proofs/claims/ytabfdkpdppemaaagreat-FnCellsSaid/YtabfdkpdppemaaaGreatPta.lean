/-
 The inputs that are admitted at a state, as fractions; whole boxes of states; the region before a step.
 Conditions: valid rooms, regions and states.
-/
import Derived.Test.YtabfdkpdppemaaaGreatVa
namespace Go.Proofs.YtabfdkpdppemaaaGreat
open Go.RowKit
def Btw (w:Zg) (n e:Int):Prop:=w.low.n*e<=n*w.low.d/\n*w.high.d<=w.high.n*e
theorem cmp_le {r s:X5} (hr:Xe r=true) (hs:Xe s=true):Xu r s<=0 ↔ r.n*s.d<=s.n*r.d:=by
 rw [cmp_def hr hs,gsgn_le];omega
theorem KT {r:X5} (h:Xe r=true):1<=r.d:=(ratioOk_bd h).1.1
theorem maxR_le {a b:X5} (ha:Xe a=true) (hb:Xe b=true) {n e:Int} (he:0<e):(YM a b).n*e<=n*(YM a b).d ↔ a.n*e<=n*a.d/\b.n*e<=n*b.d:=by
 have pa:=KT ha;have pb:=KT hb;unfold YM;rw [if_pos ⟨ha,hb⟩];split
 ·rename_i h
  rw [cmp_def ha hb,gsgn_ge] at h;exact ⟨λ k=>⟨k,Ko (a:=b.n) (b:=b.d) (c:=a.n) (d:=a.d) (e:=n) (f:=e) (by omega) (by omega) (by omega) (by omega) k⟩,λ k=>k.1⟩
 ·rename_i h
  rw [cmp_def ha hb,gsgn_ge] at h;exact ⟨λ k=>⟨Ko (a:=a.n) (b:=a.d) (c:=b.n) (d:=b.d) (e:=n) (f:=e) (by omega) (by omega) (by omega) (by omega) k,k⟩,λ k=>k.2⟩
theorem minR_ge {a b:X5} (ha:Xe a=true) (hb:Xe b=true) {n e:Int} (he:0<e):n*(YL a b).d<=(YL a b).n*e ↔ n*a.d<=a.n*e/\n*b.d<=b.n*e:=by
 have pa:=KT ha;have pb:=KT hb;unfold YL;rw [if_pos ⟨ha,hb⟩];split
 ·rename_i h
  rw [cmp_def ha hb,gsgn_le] at h;exact ⟨λ k=>⟨k,Ko (a:=n) (b:=e) (c:=a.n) (d:=a.d) (e:=b.n) (f:=b.d) (by omega) (by omega) (by omega) k (by omega)⟩,λ k=>k.1⟩
 ·rename_i h
  rw [cmp_def ha hb,gsgn_le] at h;exact ⟨λ k=>⟨Ko (a:=n) (b:=e) (c:=b.n) (d:=b.d) (e:=a.n) (f:=a.d) (by omega) (by omega) (by omega) k (by omega),k⟩,λ k=>k.2⟩
theorem of_le {t d n e:Int} (ht : -1000000000000000000<=t/\t<=1000000000000000000) (hd:1<=d/\d<=1000000000000000):Xe (X7 t d)=true/\((X7 t d).n*e<=n*(X7 t d).d ↔ t*e<=n*d)/\(n*(X7 t d).d<=(X7 t d).n*e ↔ n*d<=t*e):=by
 obtain ⟨ok,k,hk,e1,e2⟩:=Ke ht hd;generalize (X7 t d).n=N at *;generalize (X7 t d).d=D at *;have a1:t*e=k*(N*e):=by rw [e1,Int.mul_assoc]
 have a2:n*d=k*(n*D):=by rw [e2,Int.mul_left_comm]
 refine ⟨ok, ?_, ?_⟩
 ·rw [a1,a2];exact ⟨λ h=>Int.mul_le_mul_of_nonneg_left h (by omega),λ h=>Int.le_of_mul_le_mul_left h hk⟩
 ·rw [a1,a2];exact ⟨λ h=>Int.mul_le_mul_of_nonneg_left h (by omega),λ h=>Int.le_of_mul_le_mul_left h hk⟩
def AdmH (r:XK) (s:XQ) (h:Half) (n e:Int):Prop:=XT r h*n*Ys r s<=topA r s h*e
theorem admStep_btw {r:XK} {s:XQ} {h:Half} (M:MapB r s) (P:AdmP r s h) {v:Zg} (h1:Xe v.low=true) (h2:Xe v.high=true) :
 (∀ w,KK r s v h=some w->(Xe w.low=true/\Xe w.high=true)/\∀ n e,0<e->(Btw w n e ↔ Btw v n e/\AdmH r s h n e))/\((XT r h=0->0<=topA r s h)->∃ w,KK r s v h=some w):=by
 unfold KK;split
 ·rename_i hn
  obtain ⟨t,d⟩:=adm_high P M hn;refine ⟨λ w hw=>?_,λ _=>⟨_,rfl⟩⟩;injection hw with hw
  have o:=(of_le (n:=0) (e:=1) t d).1;subst hw;refine ⟨⟨h1,ratioMin_ok h2 o⟩,λ n e he=>?_⟩;unfold Btw AdmH;simp only;rw [minR_ge h2 o he,(of_le (n:=n) (e:=e) t d).2.2];have e1:XT r h*n*Ys r s=n*(Ys r s*XT r h):=by grind
  rw [e1];exact ⟨λ k=>⟨⟨k.1,k.2.1⟩,k.2.2⟩,λ k=>⟨k.1.1,k.1.2,k.2⟩⟩
 ·rename_i hn1
  split
  ·rename_i hn
   obtain ⟨t,d⟩:=adm_low P M hn;refine ⟨λ w hw=>?_,λ _=>⟨_,rfl⟩⟩;injection hw with hw
   have o:=(of_le (n:=0) (e:=1) t d).1;subst hw;refine ⟨⟨ratioMax_ok h1 o,h2⟩,λ n e he=>?_⟩;unfold Btw AdmH;simp only;rw [maxR_le h1 o he,(of_le (n:=n) (e:=e) t d).2.1];have e1:n*(-(Ys r s)*XT r h) = -(XT r h*n*Ys r s):=by grind
   have e2 : -(topA r s h)*e = -(topA r s h*e):=Int.neg_mul _ _;rw [e1,e2];exact ⟨λ k=>⟨⟨k.1.1,k.2⟩,by omega⟩,λ k=>⟨⟨k.1.1,by omega⟩,k.1.2⟩⟩
  ·rename_i hn2
   have h0:XT r h=0:=by omega
   split
   ·rename_i ht
    exact ⟨λ w hw=>(by cases hw),λ k=>absurd (k h0) (by omega)⟩
   ·rename_i ht
    refine ⟨λ w hw=>?_,λ _=>⟨_,rfl⟩⟩;injection hw with hw
    subst hw;refine ⟨⟨h1,h2⟩,λ n e he=>?_⟩;unfold AdmH;rw [h0,Int.zero_mul,Int.zero_mul];exact ⟨λ k=>⟨k,Int.mul_nonneg (by omega) (by omega)⟩,λ k=>k.1⟩
theorem adm_fold {r:XK} {s:XQ} (B:RoomB r) (M:MapB r s):∀ (l:List Half) (v:Zg),(∀ h∈l,XG h=true)->Xe v.low=true->Xe v.high=true ->
 (∀ w,l.foldl (λ o h=>o.bind λ w=>KK r s w h) (some v)=some w->(Xe w.low=true/\Xe w.high=true)/\∀ n e,0<e->(Btw w n e ↔ Btw v n e/\∀ h∈l,AdmH r s h n e))/\((∀ h∈l,XT r h=0->0<=topA r s h)->∃ w,l.foldl (λ o h=>o.bind λ w=>KK r s w h) (some v)=some w)
 | [],v,_,h1,h2=>by
  refine ⟨λ w hw=>?_,λ _=>⟨v,rfl⟩⟩;injection hw with hw
  subst hw;exact ⟨⟨h1,h2⟩,λ n e _=>⟨λ k=>⟨k,λ h hh=>by cases hh⟩,λ k=>k.1⟩⟩
 | h :: l,v,hl,h1,h2=>by
  obtain ⟨S1,S2⟩:=admStep_btw M (admP B M (hl h (List.mem_cons_self ..))) h1 h2;have fold_none:∀ l:List Half,l.foldl (λ o h=>o.bind λ w=>KK r s w h) (none:Option Zg)=none:=by
   intro l;induction l with
   | nil=>rfl
   | cons x t ih=>exact ih
  constructor
  ·intro w hw;rw [List.foldl_cons,Option.bind_some] at hw;cases e:KK r s v h with
   | none=>rw [e,fold_none] at hw;cases hw
   | some u =>
    rw [e] at hw;obtain ⟨⟨u1,u2⟩,ub⟩:=S1 u e;obtain ⟨wo,wb⟩:=(adm_fold B M l u (λ k hk=>hl k (List.mem_cons_of_mem _ hk)) u1 u2).1 w hw;refine ⟨wo,λ n e he=>?_⟩;rw [wb n e he,ub n e he];constructor
    ·rintro ⟨⟨k1,k2⟩,k3⟩;refine ⟨k1,λ g hg=>?_⟩;rcases List.mem_cons.1 hg with rfl|hg
     ·exact k2
     ·exact k3 g hg
    ·rintro ⟨k1,k2⟩;exact ⟨⟨k1,k2 h (List.mem_cons_self ..)⟩,λ g hg=>k2 g (List.mem_cons_of_mem _ hg)⟩
  ·intro h0;obtain ⟨u,e⟩:=S2 (h0 h (List.mem_cons_self ..));obtain ⟨⟨u1,u2⟩,_⟩:=S1 u e;rw [List.foldl_cons,Option.bind_some,e];exact (adm_fold B M l u (λ k hk=>hl k (List.mem_cons_of_mem _ hk)) u1 u2).2 (λ k hk=>h0 k (List.mem_cons_of_mem _ hk))
structure AdmS (r:XK) (E:List Half) (s:XQ) (w:Zg):Prop where
 ok:X6 w=true
 btw:∀ n e,0<e->(Btw w n e ↔ (r.low*e<=n/\n<=r.high*e)/\∀ h∈E,AdmH r s h n e)
theorem btw0 {r:XK} {n e:Int}:Btw ⟨⟨r.low,1⟩,⟨r.high,1⟩⟩ n e ↔ r.low*e<=n/\n<=r.high*e:=by
 unfold Btw;simp only [Int.mul_one]
theorem admit_btw {r:XK} {E:List Half} {s:XQ} (hr:X0 r=true) (hs:Xv s=true) (hE:∀ h∈E,XG h=true) {w:Zg} (h:YH r E s=some w):AdmS r E s w:=by
 have B:=roomB hr;have ok:=JV h;unfold YH at h;split at h
 ·cases h
 ·rename_i hd
  have M:=mapB B hs (by omega);have F:=(adm_fold B M E ⟨⟨r.low,1⟩,⟨r.high,1⟩⟩ hE (one_ok B.low) (one_ok ⟨by have:=B.low;have:=B.high;omega,by have:=B.high;omega⟩)).1;cases e:admL r s E with
  | none=>rw [e] at h;cases h
  | some v =>
   rw [e,Option.bind_some] at h;split at h
   ·injection h with h
    subst h;refine ⟨ok,λ n e' he=>?_⟩;rw [(F v e).2 n e' he,btw0]
   ·cases h
theorem admH_iff {r:XK} {s:XQ} {h:Half} {n e:Int}:AdmH r s h n e ↔ Zf h (Ju r s*e+r.bx*n*Ys r s) (JA r s*e+r.by_*n*Ys r s) (Ys r s*e):=by
 unfold AdmH Zf topA XT;have e1:h.a*(Ju r s*e+r.bx*n*Ys r s)+h.b*(JA r s*e+r.by_*n*Ys r s)=(h.a*r.bx+h.b*r.by_)*n*Ys r s+(h.a*Ju r s+h.b*JA r s)*e:=by grind
 have e2:(h.c*Ys r s-h.a*Ju r s-h.b*JA r s)*e=h.c*(Ys r s*e)-(h.a*Ju r s+h.b*JA r s)*e:=by grind
 omega
theorem i64_and255 (n:Int):bits .and .i64 n 255=n % 256:=by
 have h255:(BitVec.ofInt 64 255).toNat=2 ^ 8-1:=by decide
 have key:(BitVec.ofInt 64 n &&& BitVec.ofInt 64 255).toNat=(n % ((2 ^ 64:Nat):Int)).toNat % 2 ^ 8:=by
  rw [BitVec.toNat_and,BitVec.toNat_ofInt,h255,Nat.and_two_pow_sub_one_eq_mod]
 show IntKind.i64.wrap ((BitVec.ofInt 64 n &&& BitVec.ofInt 64 255).toNat:Nat)=n % 256;rw [key,IntKind.wrap_i64];omega
def Cur (w:World) (g:Nat) (B:Option Addr) (n c:Nat):Prop:=∃ i h:Int,0<=i/\i<=(n:Int)/\Xx w g 221 [.slice B n c,.int .i64 i,.int .i64 h]
abbrev Jc (w w':World) (g:Nat):Prop:=KM w w' [⟨some ⟨g,0,none⟩,0⟩]
theorem Jc.ne {w w':World} {g k:Nat} (h:Jc w w' g) (hk:k<w.heap.size) (hn:g≠k):w'.heap[k]? = w.heap[k]?:=h.block k hk (λ a ha p hp=>by
 rw [List.mem_singleton] at ha;subst ha;cases hp;exact hn)
theorem Jc.set_ {w:World} {g:Nat} (j:Nat) (u:Value):Jc w (w.setCell ⟨g,j,none⟩ u) g:=KM.setCells [u] j w (KM.refl _ _)
theorem Xx.far {w w':World} {g k T:Nat} {vs:List Value} (h:Xx w k T vs) (ho:Jc w w' g) (hn:g≠k):Xx w' k T vs:=(ho.ne (Yd h) hn).trans h
theorem Sl.farG {α:Type} {sz:Nat} {enc:α->List Value} {w w':World} {A:Option Addr} {xs:List α} {g:Nat} (h:Sl sz enc w A xs) (ho:Jc w w' g) (ha:∀ b off,A=some ⟨b,off,none⟩->0<xs.length->b≠g):Sl sz enc w' A xs:=by
 intro hn;obtain ⟨b,off,rfl,hlt,hc⟩:=h hn;refine ⟨b,off,rfl,Nat.lt_of_lt_of_le hlt ho.size,λ i hi j u hu=>?_⟩;exact (World.cell?_of_block (w:=w) (a:=⟨b,off+i*sz+j,none⟩) (ho.ne hlt (λ e=>ha b off rfl hn e.symm))).trans (hc i hi j u hu)
theorem Jc.drewN {w w':World} {g:Nat} (h:Jc w w' g) (n:Nat):Jc w (w'.drewN n) g:=h.trans (KM.of_below (ZE bR n) _)
theorem quiet_and {x:Int}:0<=x % 256/\x % 256<=255:=by omega
set_option maxRecDepth 100000 in
set_option maxHeartbeats 2000000 in
theorem curNew_c (bs:List Int) (B:Option Addr) (c:Nat) (w:World) (hn:bs.length<=1048576) (hin:∀ y∈bs,InB y) (hs:Sl 1 byteC w B bs) :
 Calls Tryz.prog 90 #[.slice B bs.length c] w λ e w'=>∃ g:Nat,e=.returned (.pointer (some ⟨g,0,none⟩))/\w.heap.size<=g/\Cur w' g B bs.length c/\Below w.heap.size w w':=by
 go_enter Tryz.func90,Tryz.ntmps90
 go_wp2
 go_loopw [3,4] (λ hv i wr=>∃ k:Nat,∃ h:Int,k<=bs.length/\i=.int .i64 k/\hv=.int .i64 h/\Below w.heap.size w wr) (λ _ i _=>bs.length-(intOf i).toNat)
 case atStart=>exact ⟨0,_,Nat.zero_le _,rfl,rfl,Below.refl _ _⟩
 case round =>
  obtain ⟨k,h,hk,rfl,rfl,hbw⟩:=hrel;by_cases hlt:k<bs.length
  ·by_cases h4:(k:Int)<4000
   ·obtain ⟨b,off,rfl,hblt,hc⟩:=(hs.below hbw).at_ hlt;have g0:=hc 0 _ rfl;simp only [Nat.add_zero,Nat.mul_one] at g0;obtain ⟨y0,y1⟩:=hin _ (List.getElem_mem hlt);clear hc;generalize bs[k]=y at *;go_wp2
    go_roundw
    case rel=>exact ⟨k+1,_,by omega,by go_num,rfl,hbw⟩
    case measure=>simp [intOf];omega
   ·go_wp2
    go_ret
    refine ⟨_,rfl,hbw.size,⟨0,_,Int.le_refl _,by omega,Xx.new wr [.slice B bs.length c,.int .i64 0,.int .i64 h] 221⟩,Xc hbw _⟩
  ·go_wp2
   go_ret
   refine ⟨_,rfl,hbw.size,⟨0,_,Int.le_refl _,by omega,Xx.new wr [.slice B bs.length c,.int .i64 0,.int .i64 h] 221⟩,Xc hbw _⟩
theorem XU.farG {α:Type} {T sz base g T':Nat} {enc:α->List Value} {w w':World} {v:Value} {xs:List α} {vs:List Value} (h:XU T sz enc w base v xs) (hc:Xx w g T' vs) (hne:T≠T') (ho:Jc w w' g):XU T sz enc w' base v xs:=by
 obtain ⟨A,c,rfl,o⟩:=h;have N:XU T sz enc w base (.slice A xs.length c) xs:=⟨A,c,rfl,o⟩;refine N.far ho (λ b hb p q hp hq=>?_);rw [List.mem_singleton] at hb;subst hb;cases hq;exact N.typ hc hne p hp
theorem wgcd (x y:Int):Xl [x,y,1]=1:=by
 obtain ⟨_,_,h⟩:=@gcdAll_dvd x y 1;have:=Int.natAbs_dvd_natAbs.2 h;simp at this;exact this
theorem wspot_ok {x y:Int} (hx : -1000<=x/\x<=1000) (hy : -1000<=y/\y<=1000):Xv ⟨x,y,1⟩=true:=by
 unfold Xv;rw [wgcd];simp [Z7];omega
theorem admAt_parts {r:XK} {p:List Half} {s:XQ} {v:Zg} (h:XH r p s=some v):Yi r p=true/\Xv s=true/\YH r (Kb r p) s=some v:=by
 unfold XH at h;split at h
 ·rename_i k
  exact ⟨k.1,k.2,h⟩
 ·cases h
structure LawMk (w:World) (x:Law) (a:LawA) (K:Int):Prop where
 lows:Sl 4 J5 w a.lows.A (markPieces K x.lows.length)
 highs:Sl 4 J5 w a.highs.A (markPieces (K+x.lows.length*4) x.highs.length)
theorem LawMk.below {w w':World} {x:Law} {a:LawA} {K:Int} (h:LawMk w x a K) (hb:Below w.heap.size w w'):LawMk w' x a K:=⟨h.lows.below hb,h.highs.below hb⟩
def blkLs (L:List KL):List Nat:=L.flatMap λ a=>blkL a.A
theorem blkLs_in {L:List KL} {m:Nat} (h:m∈blkLs L):∃ a∈L,∃ p,a.A=some p/\p.block=m:=by
 obtain ⟨a,ha,hm⟩:=List.mem_flatMap.1 h;obtain ⟨p,hp,e⟩:=Jq hm;exact ⟨a,ha,p,hp,e⟩
theorem blkLs_mem {L:List KL} {a:KL} {p:Addr} (ha:a∈L) (hp:a.A=some p):p.block∈blkLs L :=
 List.mem_flatMap.2 ⟨a,ha,by rw [hp];simp [blkL]⟩
theorem blkLs_nin {L:List KL} {g:Nat} (h:∀ a∈L,∀ p,a.A=some p->p.block≠g):g ∉ blkLs L:=by
 intro hm;obtain ⟨a,ha,p,hp,e⟩:=blkLs_in hm;exact h a ha p hp e
theorem KM.kp {L:List KL} {w w':World} (h:KM w w' L):Kp (blkLs L) w w' :=
 ⟨⟨h.os,h.tape,h.output,h.size,λ k hk=>absurd hk (Nat.not_lt_zero _)⟩,λ g hg hm=>h.block g hg (λ a ha p hp e=>hm (by rw [<- e];exact blkLs_mem ha hp))⟩
theorem Kp.only {L:List KL} {w w':World} (h:Kp (blkLs L) w w'):KM w w' L :=
 ⟨h.base.os,h.base.tape,h.base.output,h.base.size,λ k hk hn=>h.block k hk (blkLs_nin hn)⟩
end Go.Proofs.YtabfdkpdppemaaaGreat
