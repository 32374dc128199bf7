/-
 The next spot of a room and a step of the loop: what both compute. No program is named here.
 Conditions: none.
-/
import Derived.Test.YtkjimfapbjdafaaGreatV4Qf
import Derived.Maps.AppendAt
namespace Go.Proofs.YtkjimfapbjdafaaGreat
open Go.RowKit
def drivenOk (u:YA):Bool:=Xr u&&ZD u.n (-1000*u.d) (1000*u.d)
def nxtX (r:X3) (s:Ya) (u:YA) (v:Ya):Int:=(mapX r s*u.d+r.bx*u.n*YU r s)*v.d+v.x*(YU r s*u.d)
def nxtY (r:X3) (s:Ya) (u:YA) (v:Ya):Int:=(mapY r s*u.d+r.by_*u.n*YU r s)*v.d+v.y*(YU r s*u.d)
def nxtD (r:X3) (s:Ya) (u:YA) (v:Ya):Int:=YU r s*u.d*v.d
def nxtS (r:X3) (s:Ya) (u:YA) (v:Ya):Option Ya:=ZK (nxtX r s u v) (nxtY r s u v) (nxtD r s u v)
def nxtBad (r:X3) (s:Ya) (u:YA) (v:Ya):Bool:=!(Xw r) || !(Xu s) || !(Xr u) || !(Xu v)||decide (s.d > 100000)||decide (v.d > 1000)||decide (u.d > 1000) || !(ZD u.n (-1000*u.d) (1000*u.d))
def ZW (r:X3) (s:Ya) (u:YA) (v:Ya):Option Ya:=if nxtBad r s u v=true then none else nxtS r s u v
def nxtBadI (s:Ya) (u:YA) (v:Ya):Bool:=!(Xu s) || !(Xu v)||decide (s.d > 100000)||decide (v.d > 1000)||decide (u.d > 1000) || !(drivenOk u)
theorem nxtBad_i {r:X3} {s:Ya} {u:YA} {v:Ya} (hr:Xw r=true):nxtBad r s u v=nxtBadI s u v:=by
 unfold nxtBad nxtBadI drivenOk;rw [hr];generalize Xu s=a;generalize Xu v=b;generalize Xr u=c;generalize ZD u.n (-1000*u.d) (1000*u.d)=d;cases a<;>cases b<;>cases c<;>cases d<;>simp
theorem nxt_no {r:X3} {s:Ya} {u:YA} {v:Ya} (h:nxtBad r s u v=true):ZW r s u v=none:=if_pos h
theorem nxt_yes {r:X3} {s:Ya} {u:YA} {v:Ya} (h:nxtBad r s u v=false):ZW r s u v=nxtS r s u v:=if_neg (by rw [h];simp)
structure NxtIn (r:X3) (s:Ya) (u:YA) (v:Ya):Prop where
 room:Xw r=true
 sok:Xu s=true
 vok:Xu v=true
 sd:s.d<=100000
 vd:v.d<=1000
 ud:1<=u.d/\u.d<=1000
 un : -1000*u.d<=u.n/\u.n<=1000*u.d
theorem nxt_in {r:X3} {s:Ya} {u:YA} {v:Ya} (h:nxtBad r s u v=false):NxtIn r s u v:=by
 have h1:=Z9 h;have h2:=Z9 h1;have h3:=Z9 h2;have h4:=Z9 h3;have h5:=Z9 h4;have h6:=Z9 h5;have hu:=rok_bd (Yn (Jy h5));have e:=ZG.1 (Yn (Jy h));have d1:=Xo (Jy h1);have d2:=Xo (Jy h2);have d3:=Xo (Jy h3);exact ⟨Yn (Z9 h6),Yn (Jy h6),Yn (Jy h4),by omega,by omega,⟨by omega,by omega⟩,e⟩
theorem nxt_bd {M D b n d x e:Int} (hM : -4000000000<=M/\M<=4000000000) (hD:1<=D/\D<=2000000) (hb : -100<=b/\b<=100) (hd:1<=d/\d<=1000) (hn : -1000*d<=n/\n<=1000*d) (he:1<=e/\e<=1000) (hx : -1000*e<=x/\x<=1000*e) :
 (-4000000000000<=M*d/\M*d<=4000000000000)/\(-100000000<=b*n/\b*n<=100000000)/\(-200000000000000<=b*n*D/\b*n*D<=200000000000000)/\(1<=D*d/\D*d<=2000000000)
 /\(-204000000000000000<=(M*d+b*n*D)*e/\(M*d+b*n*D)*e<=204000000000000000)/\(-2000000000000000<=x*(D*d)/\x*(D*d)<=2000000000000000)/\(1<=D*d*e/\D*d*e<=2000000000000):=by
 have a1:=JC (a:=M) (b:=d) (A:=4000000000) (B:=1000) ⟨by omega,by omega⟩ ⟨by omega,by omega⟩;have a2:=JC (a:=b) (b:=n) (A:=100) (B:=1000000) ⟨by omega,by omega⟩ ⟨by omega,by omega⟩;have a3:=JC (a:=b*n) (b:=D) (A:=100000000) (B:=2000000) ⟨by omega,by omega⟩ ⟨by omega,by omega⟩;have a4:=JC (a:=D) (b:=d) (A:=2000000) (B:=1000) ⟨by omega,by omega⟩ ⟨by omega,by omega⟩;have a5:=Int.mul_pos (show 0<D by omega) (show 0<d by omega);have a6:=JC (a:=M*d+b*n*D) (b:=e) (A:=204000000000000) (B:=1000) ⟨by omega,by omega⟩ ⟨by omega,by omega⟩;have a7:=JC (a:=x) (b:=D*d) (A:=1000000) (B:=2000000000) ⟨by omega,by omega⟩ ⟨by omega,by omega⟩;have a8:=JC (a:=D*d) (b:=e) (A:=2000000000) (B:=1000) ⟨by omega,by omega⟩ ⟨by omega,by omega⟩;have a9:=Int.mul_pos a5 (show 0<e by omega);exact ⟨⟨by omega,by omega⟩,⟨by omega,by omega⟩,⟨by omega,by omega⟩,⟨by omega,by omega⟩,⟨by omega,by omega⟩,⟨by omega,by omega⟩,⟨by omega,by omega⟩⟩
theorem nxt_bd2 {M D x e:Int} (hM : -4000000000<=M/\M<=4000000000) (hD:1<=D/\D<=2000000) (he:1<=e/\e<=1000) (hx : -1000*e<=x/\x<=1000*e) :
 (-4000000000000<=M*e/\M*e<=4000000000000)/\(-2000000000000<=x*D/\x*D<=2000000000000)/\(1<=D*e/\D*e<=2000000000):=by
 have a1:=JC (a:=M) (b:=e) (A:=4000000000) (B:=1000) ⟨by omega,by omega⟩ ⟨by omega,by omega⟩;have a2:=JC (a:=x) (b:=D) (A:=1000000) (B:=2000000) ⟨by omega,by omega⟩ ⟨by omega,by omega⟩;have a4:=JC (a:=D) (b:=e) (A:=2000000) (B:=1000) ⟨by omega,by omega⟩ ⟨by omega,by omega⟩;have a5:=Int.mul_pos (show 0<D by omega) (show 0<e by omega);exact ⟨⟨by omega,by omega⟩,⟨by omega,by omega⟩,⟨by omega,by omega⟩⟩
theorem nxt_bd3 {X D b n d:Int} (hX : -6000000000000<=X/\X<=6000000000000) (hD:1<=D/\D<=2000000000) (hb : -100<=b/\b<=100) (hd:1<=d/\d<=1000) (hn : -1000*d<=n/\n<=1000*d) :
 (-6000000000000000<=X*d/\X*d<=6000000000000000)/\(-100000000<=b*n/\b*n<=100000000)/\(-200000000000000000<=b*n*D/\b*n*D<=200000000000000000)/\(1<=D*d/\D*d<=2000000000000):=by
 have a1:=JC (a:=X) (b:=d) (A:=6000000000000) (B:=1000) ⟨by omega,by omega⟩ ⟨by omega,by omega⟩;have a2:=JC (a:=b) (b:=n) (A:=100) (B:=1000000) ⟨by omega,by omega⟩ ⟨by omega,by omega⟩;have a3:=JC (a:=b*n) (b:=D) (A:=100000000) (B:=2000000000) ⟨by omega,by omega⟩ ⟨by omega,by omega⟩;have a4:=JC (a:=D) (b:=d) (A:=2000000000) (B:=1000) ⟨by omega,by omega⟩ ⟨by omega,by omega⟩;have a5:=Int.mul_pos (show 0<D by omega) (show 0<d by omega);exact ⟨⟨by omega,by omega⟩,⟨by omega,by omega⟩,⟨by omega,by omega⟩,⟨by omega,by omega⟩⟩
theorem spotOf_fac {g x y d X Y D:Int} (hg:0<g) (hX:X=g*x) (hY:Y=g*y) (hD:D=g*d) (hd:0<D) (hX2 : -9223372036854775807<=X) (hY2 : -9223372036854775807<=Y) (hx2 : -9223372036854775807<=x) (hy2 : -9223372036854775807<=y):ZK X Y D=ZK x y d:=by
 have hd':0<d:=gmp (a:=g) (by omega) hg;have e:KX X Y D=KX x y d:=(red_eq hd hd').2 ⟨by rw [hX,hD];grind,by rw [hY,hD];grind⟩;unfold ZK;rw [e,ZR hX2,ZR hY2,ZR hx2,ZR hy2];simp only [show ¬ D<=0 by omega,show ¬ d<=0 by omega]
theorem gcd3_div {X Y D:Int} (hD:0<D) (hX : -9223372036854775807<=X) (hY : -9223372036854775807<=Y):∃ g x y d,Zq (Zq X Y) D=g/\0<g/\g<=D/\X=g*x/\Y=g*y/\D=g*d/\X.tdiv g=x/\Y.tdiv g=y/\D.tdiv g=d:=by
 have e1:Zq X Y=((Nat.gcd X.natAbs Y.natAbs:Nat):Int):=Jl (ZR hX) (ZR hY);have e2:Zq (Zq X Y) D=((XJ [X,Y,D]:Nat):Int):=by
  rw [Jl (by rw [e1];exact ZR (by omega)) (ZR (by omega)),e1,gcd3];rfl
 have r:=red_scale (x:=X) (y:=Y) (d:=D) (by omega);obtain ⟨p,f1,f2,f3⟩:=r;refine ⟨_,_,_,_,e2,p, ?_,f1,f2,f3, ?_, ?_, ?_⟩
 ·have:=gmp (a:=((XJ [X,Y,D]:Nat):Int)) (b:=(KX X Y D).d) (by omega) p;have:=Int.mul_le_mul_of_nonneg_left (show 1<=(KX X Y D).d by omega) (Int.le_of_lt p);omega
 ·rfl
 ·rfl
 ·rfl
theorem nxt_same {M N D bx by_ n d x y e g X Y E:Int} (hM : -4000000000<=M/\M<=4000000000) (hN : -4000000000<=N/\N<=4000000000) (hD:1<=D/\D<=2000000) (hb : -100<=bx/\bx<=100) (hc : -100<=by_/\by_<=100) (hd:1<=d/\d<=1000) (hn : -1000*d<=n/\n<=1000*d) (he:1<=e/\e<=1000) (hx : -1000*e<=x/\x<=1000*e) (hy : -1000*e<=y/\y<=1000*e)
 (hg:0<g) (eX:M*e+x*D=g*X) (eY:N*e+y*D=g*Y) (eE:D*e=g*E) (hX : -6000000000000<=X/\X<=6000000000000) (hY : -6000000000000<=Y/\Y<=6000000000000) (hE:1<=E/\E<=2000000000) :
 ZK ((M*d+bx*n*D)*e+x*(D*d)) ((N*d+by_*n*D)*e+y*(D*d)) (D*d*e)=ZK (X*d+bx*n*E) (Y*d+by_*n*E) (E*d):=by
 obtain ⟨_,_,_,_,a5,a6,a7⟩:=nxt_bd hM hD hb hd hn he hx;obtain ⟨_,_,_,_,b5,b6,_⟩:=nxt_bd hN hD hc hd hn he hy;obtain ⟨c1,_,c3,_⟩:=nxt_bd3 hX hE hb hd hn;obtain ⟨d1,_,d3,_⟩:=nxt_bd3 hY hE hc hd hn;refine spotOf_fac hg ?_ ?_ ?_ (by omega) (by omega) (by omega) (by omega) (by omega)
 ·grind
 ·grind
 ·grind
def stepG (o:Option ZP) (r:X3) (s:Ya) (wish:Int) (v:Ya):Option (Ya × YA):=o.bind λ a=>(ZW r s (pick a wish) v).map λ t=>(t,pick a wish)
def XK (r:X3) (p:List Half) (s:Ya) (wish:Int) (v:Ya):Option (Ya × YA):=stepG (XL r p s) r s wish v
def XY:Ya × YA:=(XU,⟨0,0⟩)
def optStepV (o:Option (Ya × YA)):Value:=.tuple #[Yj (o.getD XY).1,X7 (o.getD XY).2,.bool o.isSome]
theorem optSpot_eq (x:Option Ya):optSpotV x=.tuple #[Yj (x.getD XU),.bool x.isSome]:=by cases x<;>rfl
theorem stepG_no {r:X3} {s:Ya} {wish:Int} {v:Ya} {o:Option ZP} (h:o.isSome=false):stepG o r s wish v=none:=by
 cases o with
 | none=>rfl
 | some _=>cases h
theorem stepG_no2 {r:X3} {s:Ya} {wish:Int} {v:Ya} {o:Option ZP} (h:o.isSome=true) (h2:(ZW r s (pick (o.getD Xj) wish) v).isSome=false):stepG o r s wish v=none:=by
 obtain ⟨a,rfl⟩:=Option.isSome_iff_exists.1 h;unfold stepG;rw [Option.bind_some];rw [Option.getD_some] at h2;rw [isNone_f h2];rfl
theorem stepG_yes {r:X3} {s:Ya} {wish:Int} {v:Ya} {o:Option ZP} (h:o.isSome=true) (h2:(ZW r s (pick (o.getD Xj) wish) v).isSome=true):stepG o r s wish v=some ((ZW r s (pick (o.getD Xj) wish) v).getD XU,pick (o.getD Xj) wish):=by
 obtain ⟨a,rfl⟩:=Option.isSome_iff_exists.1 h;rw [Option.getD_some] at h2 ⊢;obtain ⟨t,ht⟩:=Option.isSome_iff_exists.1 h2;unfold stepG;rw [Option.bind_some,ht];rfl
theorem pick_In {a:ZP} {wish:Int} (ha:a.In):(pick a wish).In:=by
 unfold pick;have w:=clampW_bd wish;split
 ·rename_i h
  have c:=ceil_bd (spanOk_r h).1;have f:=floor_bd (spanOk_r h).2;split
  ·split
   ·exact whIn (by omega)
   ·exact ha.1
  ·split
   ·split
    ·exact whIn (by omega)
    ·exact ha.2
   ·exact whIn (by omega)
 ·exact ⟨⟨by decide,by decide⟩,⟨by decide,by decide⟩⟩
theorem XI.kpN {α:Type} {T sz base n c:Nat} {enc:α->List Value} {M:List Nat} {w w':World} {A:Option Addr} {xs:List α} (h:XI T sz enc w base (.slice A n c) xs) (k:Kp M w w') (hA:∀ p,A=some p->p.block ∉ M):XI T sz enc w' base (.slice A n c) xs:=by
 obtain ⟨A',cap,e,h1,h2⟩:=h;refine ⟨A',cap,e,h1, ?_⟩;rcases h2 with h2|⟨q,cap',cur,hv,hg,hh,r⟩
 ·exact .inl h2
 ·have hA2:A=some ⟨q,0,none⟩:=by injection hv
  exact .inr ⟨q,cap',cur,hv,hg,(k.block q (Yu hh) (hA _ hA2)).trans hh,r⟩
theorem newTyb {α:Type} {T sz base n c:Nat} {enc:α->List Value} {w:World} {A:Option Addr} {xs:List α} (h:XI T sz enc w base (.slice A n c) xs):∀ q,A=some q->∃ vs,Xy w q.block T vs:=by
 intro q hq;obtain ⟨A',c',e1,h1,h2⟩:=h;injection e1 with e1 _ _
 subst e1;rcases h2 with ⟨h2,_⟩|⟨g',cap',cur,hv,_,hh,_⟩
 ·rw [hq] at h2;cases h2
 ·rw [hq] at hv;injection hv with hv _ _
  injection hv with hv
  subst hv;exact ⟨cur.toList,by unfold Xy;simpa using hh⟩
theorem newAp2 {α β:Type} {T sz base n c T' sz' base' n' c':Nat} {enc:α->List Value} {enc':β->List Value} {w:World} {A B:Option Addr} {xs:List α} {ys:List β} (h1:XI T sz enc w base (.slice A n c) xs) (h2:XI T' sz' enc' w base' (.slice B n' c') ys) (hne:T≠T'):∀ p,A=some p->p.block ∉ blkL B:=by
 intro p hp hm;obtain ⟨q,hq,e⟩:=KK hm;obtain ⟨vs,hv⟩:=newTyb h2 q hq;exact h1.typ hv hne p hp e.symm
def hasS (p:List Half) (s:Ya):Bool:=!decide (p.length=0)&&Xu s&&Xf p&&Ze p s
def rlK (r:X3) (p:List Half) (s:Ya) (ws:List Int) (ns:List Ya):Nat->Option (List Ya × List YA)
 | 0=>some ([s],[])
 | k+1=>(rlK r p s ws ns k).bind λ z=>(XK r p (z.1.getD k XU) (ws.getD k 0) (ns.getD (k % ns.length) XU)).map λ t=>(z.1++[t.1],z.2++[t.2])
def rlOk (r:X3) (p:List Half) (s:Ya) (ws:List Int) (ns:List Ya):Bool:=Xw r&&decide (ws.length<=20) && !decide (ns.length=0)&&hasS p s
def rlO (r:X3) (p:List Half) (s:Ya) (ws:List Int) (ns:List Ya):Option (List Ya × List YA):=if rlOk r p s ws ns=true then rlK r p s ws ns ws.length else none
variable {r:X3} {p:List Half} {s:Ya} {ws:List Int} {ns:List Ya}
theorem rl_no (h:rlOk r p s ws ns=false):rlO r p s ws ns=none:=by unfold rlO;rw [if_neg (by rw [h];simp)]
theorem rl_yes (h:rlOk r p s ws ns=true):rlO r p s ws ns=rlK r p s ws ns ws.length:=by unfold rlO;rw [if_pos h]
theorem rlK_none {k:Nat} (h:rlK r p s ws ns k=none):∀ m,rlK r p s ws ns (k+m)=none
 | 0=>h
 | m+1=>by
  show (rlK r p s ws ns (k+m)).bind _=none;rw [rlK_none h m];rfl
theorem rlK_stop {k n:Nat} {z:List Ya × List YA} (hk:k<n) (hz:rlK r p s ws ns k=some z) (h:(XK r p (z.1.getD k XU) (ws.getD k 0) (ns.getD (k % ns.length) XU)).isSome=false):rlK r p s ws ns n=none:=by
 have h1:rlK r p s ws ns (k+1)=none:=by
  rw [rlK,hz,Option.bind_some];cases e:XK r p (z.1.getD k XU) (ws.getD k 0) (ns.getD (k % ns.length) XU) with
  | none=>rfl
  | some v=>rw [e] at h;cases h
 have:=rlK_none h1 (n-(k+1));rwa [show k+1+(n-(k+1))=n by omega] at this
theorem rlK_go {k:Nat} {z:List Ya × List YA} (hz:rlK r p s ws ns k=some z) (h:(XK r p (z.1.getD k XU) (ws.getD k 0) (ns.getD (k % ns.length) XU)).isSome=true):rlK r p s ws ns (k+1)=some (z.1++[((XK r p (z.1.getD k XU) (ws.getD k 0) (ns.getD (k % ns.length) XU)).getD XY).1],z.2++[((XK r p (z.1.getD k XU) (ws.getD k 0) (ns.getD (k % ns.length) XU)).getD XY).2]):=by
 obtain ⟨t,e⟩:=Option.isSome_iff_exists.1 h;rw [rlK,hz,Option.bind_some,e];rfl
theorem rlK_len:∀ (k:Nat) (z:List Ya × List YA),rlK r p s ws ns k=some z->z.1.length=k+1/\z.2.length=k
 | 0,z,h=>by injection h with h;rw [<- h];exact ⟨rfl,rfl⟩
 | k+1,z,h=>by
  rw [rlK] at h;cases e:rlK r p s ws ns k with
  | none=>rw [e] at h;cases h
  | some y =>
   rw [e,Option.bind_some] at h;cases e2:XK r p (y.1.getD k XU) (ws.getD k 0) (ns.getD (k % ns.length) XU) with
   | none=>rw [e2] at h;cases h
   | some t =>
    rw [e2] at h;injection h with h
    obtain ⟨h1,h2⟩:=rlK_len k y e;rw [<- h];simp only [List.length_append,List.length_cons,List.length_nil];omega
theorem stepL_bad {v:Ya} {wish:Int} (h:Za r p=false):XK r p s wish v=none:=by
 unfold XK XL;rw [if_neg (by rw [h];simp)];rfl
theorem rl_bad (h:Za r p=false) (hw:ws.length≠0):rlK r p s ws ns ws.length=none :=
 rlK_stop (k:=0) (z:=([s],[])) (by omega) rfl (by rw [stepL_bad h];rfl)
theorem getD_snoc {α:Type} (l:List α) (x d:α) {k:Nat} (h:l.length=k):(l++[x]).getD k d=x:=by
 rw [List.getD_eq_getElem?_getD,List.getElem?_append_right (by omega),h,Nat.sub_self];rfl
theorem rl_le (r:X3) (p:List Half) (s:Ya) (ws:List Int) (ns:List Ya):((rlO r p s ws ns).getD ([],[])).1.length<=21/\((rlO r p s ws ns).getD ([],[])).2.length<=20:=by
 unfold rlO;split
 ·rename_i h
  unfold rlOk at h;simp only [Bool.and_eq_true,decide_eq_true_eq] at h;cases e:rlK r p s ws ns ws.length with
  | none=>exact ⟨Nat.zero_le _,Nat.zero_le _⟩
  | some z =>
   have:=rlK_len _ z e;rw [Option.getD_some];omega
 ·exact ⟨Nat.zero_le _,Nat.zero_le _⟩
theorem spotOf_ok {x y d:Int} {t:Ya} (h:ZK x y d=some t):Xu t=true:=by
 unfold ZK at h;split at h
 ·cases h
 ·split at h
  ·rename_i q
   injection h with h
   rw [<- h];exact q
  ·cases h
theorem nxtO_ok {u:YA} {v t:Ya} (h:ZW r s u v=some t):Xu t=true:=by
 unfold ZW at h;split at h
 ·cases h
 ·exact spotOf_ok h
theorem stepL_ok {v:Ya} {wish:Int} {z:Ya × YA} (h:XK r p s wish v=some z):Xu z.1=true:=by
 unfold XK stepG at h;cases e:XL r p s with
 | none=>rw [e] at h;cases h
 | some a =>
  rw [e,Option.bind_some] at h;cases e2:ZW r s (pick a wish) v with
  | none=>rw [e2] at h;cases h
  | some t =>
   rw [e2] at h;injection h with h
   rw [<- h];exact nxtO_ok e2
theorem step_ok1 {v:Ya} {wish:Int} (h:(XK r p s wish v).isSome=true):Xu ((XK r p s wish v).getD XY).1=true:=by
 obtain ⟨z,e⟩:=Option.isSome_iff_exists.1 h;rw [e,Option.getD_some];exact stepL_ok e
theorem rlK_in:∀ {k:Nat} {z:List Ya × List YA},rlK r p s ws ns k=some z->s.In->∀ {j:Nat},j<z.1.length->(z.1.getD j XU).In
 | 0,z,h,hs,j,hj=>by
  injection h with h
  rw [<- h] at hj ⊢;have:j=0:=by simpa using hj
  rw [this];exact hs
 | k+1,z,h,hs,j,hj=>by
  rw [rlK] at h;cases e:rlK r p s ws ns k with
  | none=>rw [e] at h;cases h
  | some y =>
   rw [e,Option.bind_some] at h;cases e2:XK r p (y.1.getD k XU) (ws.getD k 0) (ns.getD (k % ns.length) XU) with
   | none=>rw [e2] at h;cases h
   | some t =>
    rw [e2] at h;injection h with h
    rw [<- h] at hj ⊢;simp only [List.length_append,List.length_cons,List.length_nil] at hj;simp only;by_cases hc:j<y.1.length
    ·have:=rlK_in e hs hc;rw [List.getD_eq_getElem?_getD,List.getElem?_append_left hc,<- List.getD_eq_getElem?_getD];exact this
    ·rw [getD_snoc y.1 t.1 XU (k:=j) (by omega)];exact spotIn (stepL_ok e2)
end Go.Proofs.YtkjimfapbjdafaaGreat
