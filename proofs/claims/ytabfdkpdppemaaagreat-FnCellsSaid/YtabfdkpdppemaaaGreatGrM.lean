/-
 Equality of slices, regions, rooms and watches: of the program and of the reference.
 Conditions: the slices hold at most 2^20 elements.
-/
import Derived.Deep.RegionHeld3
import Derived.Deep.RegionWith
import Derived.Test.YtabfdkpdppemaaaGreatGrG
import Derived.Deep.DeepCutAuto
import Derived.Deep.DeepMust
set_option maxHeartbeats 4000000
namespace Go.Proofs.YtabfdkpdppemaaaGreat
open Go.RowKit
def eqB {α:Type} [DecidableEq α] (xs ys:List α):Bool:=decide (xs=ys)
theorem eqB_len {α:Type} [DecidableEq α] {xs ys:List α} (h:xs.length≠ys.length):eqB xs ys=false:=by
 simp only [eqB,decide_eq_false_iff_not];intro e;exact h (by rw [e])
theorem eqB_no {α:Type} [DecidableEq α] {xs ys:List α} {k:Nat} (h1:k<xs.length) (h2:k<ys.length) (h:xs[k]≠ys[k]):eqB xs ys=false:=by
 simp only [eqB,decide_eq_false_iff_not];intro e;subst e;exact h rfl
theorem eqB_yes {α:Type} [DecidableEq α] {xs ys:List α} (h1:xs.length=ys.length) (h:xs.take xs.length=ys.take xs.length):eqB xs ys=true:=by
 rw [List.take_length] at h;rw [h1,List.take_length] at h;simp [eqB,h]
theorem take_step {α:Type} {xs ys:List α} {k:Nat} (h1:k<xs.length) (h2:k<ys.length) (h:xs.take k=ys.take k) (he:xs[k]=ys[k]):xs.take (k+1)=ys.take (k+1):=by
 rw [ZC xs k h1,ZC ys k h2,h,he]
theorem half_ne {p q:Half} (h:p≠q):(p.a == q.a)=false∨(p.a=q.a/\(p.b == q.b)=false)∨(p.a=q.a/\p.b=q.b/\(p.c == q.c)=false):=by
 obtain ⟨a,b,c⟩:=p;obtain ⟨a',b',c'⟩:=q;by_cases h1:a=a'
 ·by_cases h2:b=b'
  ·by_cases h3:c=c'
   ·subst h1 h2 h3;exact absurd rfl h
   ·exact .inr (.inr ⟨h1,h2,by simpa using h3⟩)
  ·exact .inr (.inl ⟨h1,by simpa using h2⟩)
 ·exact .inl (by simpa using h1)
theorem Sl.drawn {α:Type} {sz:Nat} {enc:α->List Value} {w w':World} {A:Option Addr} {xs:List α} (h:Sl sz enc w A xs) (hd:Drawn w w'):Sl sz enc w' A xs:=by
 obtain ⟨n,rfl⟩:=hd;exact h.drewN n
theorem eqHalves_q (A B:Option Addr) (xs ys:List Half) (c d:Nat) (w:World) (hx:xs.length<=1048576) (_:ys.length<=1048576) (ha:Sl 3 Xh w A xs) (hb:Sl 3 Xh w B ys) :
 Calls Tryz.prog 115 #[.slice A xs.length c,.slice B ys.length d] w λ e w'=>e=.returned (.bool (eqB xs ys))/\∃ n,w'=w.drewN n:=by
 by_cases hl:xs.length=ys.length
 ·have hfin:=λ h=>Lib.hid (eqB_yes (xs:=xs) (ys:=ys) hl h);have hno:=λ k h1 h2 h=>Lib.hid (@eqB_no Half _ xs ys k h1 h2 h);have HL:=Lib.hid hl;have i0:((xs.length:Int) != (ys.length:Int))=false:=by simp [hl]
  clear hl;have hfin2:=Lib.hid hfin;have hno2:=Lib.hid hno;clear hfin hno;go_enter Tryz.func115,Tryz.ntmps115
  go_wp2
  go_loopw [5,13] (λ x i wr=>∃ k:Nat,k<=xs.length/\i=.int .i64 k/\Hid (xs.take k=ys.take k)/\Drawn w wr) (λ _ i _=>xs.length-(intOf i).toNat)
  case atStart=>exact ⟨0,Nat.zero_le _,rfl,by simp [Hid],Drawn.refl _⟩
  case round =>
   obtain ⟨k,hk,rfl,htk,hd⟩:=hrel;by_cases hlt:k<xs.length
   ·have hlt2:k<ys.length:=by have:=HL.out;omega
    obtain ⟨b,off,rfl,hblt,hc⟩:=(ha.drawn hd).at_ hlt;obtain ⟨b',off',rfl,hblt',hc'⟩:=(hb.drawn hd).at_ hlt2;have g0:=hc 0 _ rfl;have g1:=hc 1 _ rfl;have g2:=hc 2 _ rfl;have g3:=hc' 0 _ rfl;have g4:=hc' 1 _ rfl;have g5:=hc' 2 _ rfl;clear hc hc';simp only [Nat.add_zero] at g0 g3;have i1:(0:Int)<=(k:Int):=by omega
    have i2:(k:Int)<(xs.length:Int):=by omega
    have i3:(k:Int)<(ys.length:Int):=by omega
    by_cases he:xs[k]=ys[k]
    ·have hst:=Lib.hid (take_step hlt hlt2 htk.out he);rw [<- he] at g3 g4 g5;generalize xs[k]=p at *;clear he htk;go_wp2
     go_quiet (fail)
     go_wp2
     go_roundw
     case rel=>exact ⟨k+1,by omega,by go_num,hst,Drawn.drewN hd _⟩
     case measure=>simp [intOf];omega
    ·have hst:=hno2.out k hlt hlt2 he;have q:=half_ne he;generalize xs[k]=p at *;generalize ys[k]=p' at *;clear he htk;obtain ⟨a1,b1,c1⟩:=p;obtain ⟨a2,b2,c2⟩:=p';simp only at q g0 g1 g2 g3 g4 g5;rcases q with q|⟨rfl,q⟩|⟨rfl,rfl,q⟩
     all_goals
      go_wp2
      go_quiet (fail)
      go_wp2
      refine bodyPost_ret (v:=.bool false) (by simp [results,Tryz.results115,go_sem]) rfl ⟨by rw [hst.out], ?_⟩;exact (Drawn.drewN hd _).out
   ·obtain rfl:k=xs.length:=by omega
    have hst:=hfin2.out htk.out;clear htk;go_wp2
    go_ret
    exact ⟨Xm hst.out.symm,hd.out⟩
 ·have hst:=Lib.hid (eqB_len hl);have i0:((xs.length:Int) != (ys.length:Int))=true:=by simp;omega
  go_enter Tryz.func115,Tryz.ntmps115
  go_wp2
  go_ret
  exact ⟨Xm hst.out.symm,0,rfl⟩
theorem iSameRegion_c (p q:List Half) (a b:KL) (w:World) (hp:p.length<=1048576) (hq:q.length<=1048576) (ha:Sl 3 Xh w a.A p) (hb:Sl 3 Xh w b.A q) :
 Calls Tryz.prog 32 #[ZN p a,ZN q b] w λ e w'=>e=.returned (.bool (eqB p q))/\Below w.heap.size w w':=by
 go_enter Tryz.func32,Tryz.ntmps32
 go_wp2_with (fail)
 refine (eqHalves_q a.A b.A p q _ _ _ hp hq (Sl.below ha (by exact Xp)) (Sl.below hb (by exact Xp))).mono ?_;rintro e w' ⟨rfl,n,rfl⟩;go_wp2
 go_ret
 refine ⟨rfl, ?_⟩;exact Xp
set_option maxRecDepth 100000 in
theorem sSameRegion_c (p q:List Half) (a b:KL) (w:World) (hp:p.length<=1048576) (_:q.length<=1048576) (ha:Sl 3 Xh w a.A p) (hb:Sl 3 Xh w b.A q) :
 Calls Tryz.prog 219 #[ZN p a,ZN q b] w λ e w'=>e=.returned (.bool (eqB p q))/\Below w.heap.size w w':=by
 obtain ⟨A,ca⟩:=a;obtain ⟨B,cb⟩:=b;by_cases hl:p.length=q.length
 ·have hfin:=Lib.hid (λ h=>Lib.hid (eqB_yes (xs:=p) (ys:=q) hl h));have hno:=Lib.hid (λ k h1 h2 h=>Lib.hid (@eqB_no Half _ p q k h1 h2 h));have HL:=Lib.hid hl;have i0:((p.length:Int) != (q.length:Int))=false:=by simp [hl]
  clear hl;go_enter Tryz.func219,Tryz.ntmps219
  go_wp2
  go_loopw [5,6,17] (λ _ _ i wr=>∃ k:Nat,k<=p.length/\i=.int .i64 k/\Hid (p.take k=q.take k)/\Below ((w.alloc (.cells #[.slice A p.length ca] 26)).alloc (.cells #[.slice B q.length cb] 26)).heap.size ((w.alloc (.cells #[.slice A p.length ca] 26)).alloc (.cells #[.slice B q.length cb] 26)) wr) (λ _ _ i _=>p.length-(intOf i).toNat)
  case atStart=>exact ⟨0,Nat.zero_le _,rfl,by simp [Hid],Below.refl _ _⟩
  case round =>
   obtain ⟨k,hk,rfl,htk,hbw⟩:=hrel;have r0:=XD hbw;have l0:w.heap.size<wr.heap.size:=XL hbw;have l1:w.heap.size+1<wr.heap.size:=XL hbw;by_cases hlt:k<p.length
   ·have hlt2:k<q.length:=by have:=HL.out;omega
    obtain ⟨b,off,rfl,hblt,hc⟩:=(Sl.below ha (by exact Xp:Below w.heap.size w wr)).at_ hlt;obtain ⟨b',off',rfl,hblt',hc'⟩:=(Sl.below hb (by exact Xp:Below w.heap.size w wr)).at_ hlt2;have g0:=hc 0 _ rfl;have g1:=hc 1 _ rfl;have g2:=hc 2 _ rfl;have g3:=hc' 0 _ rfl;have g4:=hc' 1 _ rfl;have g5:=hc' 2 _ rfl;clear hc hc';simp only [Nat.add_zero] at g0 g3;have i1:(0:Int)<=(k:Int):=by omega
    have i2:(k:Int)<(p.length:Int):=by omega
    have i3:(k:Int)<(q.length:Int):=by omega
    by_cases he:p[k]=q[k]
    ·have hst:=Lib.hid (take_step hlt hlt2 htk.out he);rw [<- he] at g3 g4 g5;generalize p[k]=x at *;clear he htk;go_wp2
     go_quiet (fail)
     go_wp2
     go_roundw
     case rel =>
      refine ⟨k+1,by omega,by go_num,hst, ?_⟩;exact Xp
     case measure=>simp [intOf];omega
    ·have hst:=hno.out k hlt hlt2 he;have q1:=half_ne he;generalize p[k]=x at *;generalize q[k]=x' at *;clear he htk;obtain ⟨a1,b1,c1⟩:=x;obtain ⟨a2,b2,c2⟩:=x';simp only at q1 g0 g1 g2 g3 g4 g5;rcases q1 with q1|⟨rfl,q1⟩|⟨rfl,rfl,q1⟩
     all_goals
      go_wp2
      go_quiet (fail)
      go_wp2
      refine bodyPost_ret (v:=.bool false) (by simp [results,Tryz.results219,go_sem]) rfl ⟨by rw [hst.out], ?_⟩;exact Xp
   ·obtain rfl:k=p.length:=by omega
    have hst:=hfin.out htk.out;clear htk;go_wp2
    go_ret
    refine ⟨Xm hst.out.symm, ?_⟩;exact Xp
 ·have hst:=Lib.hid (eqB_len hl);have i0:((p.length:Int) != (q.length:Int))=true:=by simp;omega
  go_enter Tryz.func219,Tryz.ntmps219
  go_wp2
  go_ret
  refine ⟨Xm hst.out.symm, ?_⟩;exact Xp
theorem iRatioOf_c (n d:Int) (w:World) (hn:Zi n) (hd:Zi d) :
 Calls Tryz.prog 44 #[.int .i64 n,.int .i64 d] w λ e w'=>e=.returned (XO (X7 n d))/\Below w.heap.size w w':=by
 have m1:=λ v h=>J4 n v h hn;have m2:=λ v h=>J4 d v h hd;by_cases hz:d=0
 ·have hfin:X7 n d=Y3:=by simp [X7,hz]
  rw [hfin];subst hz;clear m1 m2;go_enter Tryz.func44,Tryz.ntmps44
  go_wp2
  refine bodyPost_ret (v:=.agg #[.int .i64 0,.int .i64 0]) (by simp [results,Tryz.results44,go_sem]) rfl ⟨rfl, ?_⟩;exact Xp
 ·have hz2:(d == 0)=false:=by simpa using hz
  cases mn:Yz n
  ·have n1:=m1 _ mn;cases md:Yz d
   ·have n2:=m2 _ md;have hall:∀ k∈[n,d],Zi k:=by simp [hn,hd]
    have hg:=Jw (some ⟨w.heap.size+1,0,none⟩) [n,d] 2 _ (by simp) hall (sl_new_at (T:=3) Zd (w.alloc (.cells #[.int .i64 0,.int .i64 0] 36)) [n,d] #[.int .i64 n,.int .i64 d] rfl (by simp));have hle:=gcdAll_le [n,d] hall;have hpos:0<Xl [n,d]:=by rw [Jb];exact Nat.gcd_pos_of_pos_right _ (by omega)
    have hfin:Hid (X7 n d=if 1000000000000000000<n.natAbs / Xl [n,d]∨1000000000000000<d.natAbs / Xl [n,d] then Y3
     else if decide (n<0)=decide (d<0) then ⟨((n.natAbs / Xl [n,d]:Nat):Int),((d.natAbs / Xl [n,d]:Nat):Int)⟩
     else ⟨-((n.natAbs / Xl [n,d]:Nat):Int),((d.natAbs / Xl [n,d]:Nat):Int)⟩):=by
     show _=_;rw [X7,if_neg (by simp [hz,mn,md])]
    have c1:=λ W=>Jm n W hn;have c2:=λ W=>Jm d W hd;have a1:=natAbs_le hn;have a2:=natAbs_le hd;generalize Xl [n,d]=G at *;have l1:=Nat.div_le_self n.natAbs G;have l2:=Nat.div_le_self d.natAbs G;have q1:IntKind.u64.wrap ((n.natAbs:Int).tdiv (G:Int))=((n.natAbs / G:Nat):Int):=by rw [tdiv_nat];exact IntWalk.u64_in _ ⟨Int.natCast_nonneg _,by omega⟩
    have q2:IntKind.u64.wrap ((d.natAbs:Int).tdiv (G:Int))=((d.natAbs / G:Nat):Int):=by rw [tdiv_nat];exact IntWalk.u64_in _ ⟨Int.natCast_nonneg _,by omega⟩
    have q3:IntKind.u64.wrap ((n.natAbs:Int) / (G:Int))=((n.natAbs / G:Nat):Int):=by rw [<- Int.natCast_ediv];exact IntWalk.u64_in _ ⟨Int.natCast_nonneg _,by omega⟩
    have q4:IntKind.u64.wrap ((d.natAbs:Int) / (G:Int))=((d.natAbs / G:Nat):Int):=by rw [<- Int.natCast_ediv];exact IntWalk.u64_in _ ⟨Int.natCast_nonneg _,by omega⟩
    have hG1:¬ (G=0):=by omega
    have hG2:¬ ((G:Int)=0):=by omega
    generalize n.natAbs / G=top at *;generalize d.natAbs / G=bel at *;clear hn hd m1 m2 hall mn md hz;generalize hsn:decide (n<0)=sn at *;generalize hsd:decide (d<0)=sd at *;go_enter Tryz.func44,Tryz.ntmps44
    go_wp2_with (first|(go_at_call_of 129 (Value.int IntKind.i64 n);refine (n1 _).mono ?_;rintro e w' ⟨rfl,rfl⟩)|(go_at_call 129;refine (n2 _).mono ?_;rintro e w' ⟨rfl,rfl⟩))
    refine hg.mono ?_;rintro e w1 ⟨rfl,hb1⟩;have H1:=((Yk.new w #[.int .i64 0,.int .i64 0] 36).alloc _).below hb1;have hbw:=Xf (Xc (Xc (Below.refl w.heap.size w) _) _) hb1;go_wp2
    go_big_quiet ((first|(go_at_call_of 131 (Value.int IntKind.i64 n);exact Jd (c1 _))|(go_at_call 131;exact Jd (c2 _))))
    have H2:=H1.drewN nq;have hbw2:=ZE hbw nq;generalize w1.drewN nq=w2 at *;obtain ⟨cH2_0,fH2_0⟩:=H2.2 0 _ rfl;obtain ⟨cH2_1,fH2_1⟩:=H2.2 1 _ rfl;have hlt2:=H2.1;clear q1 q2 q3 q4 hbw H1 hb1 hg;by_cases b1:1000000000000000000<top
    ·have hf:Hid (X7 n d=Y3):=by show _=_;rw [hfin.out,if_pos (.inl b1)]
     go_wp2
     refine bodyPost_ret (v:=.agg #[.int .i64 0,.int .i64 0]) (by simp [results,Tryz.results44,go_sem, *]) rfl ⟨by rw [hf.out];rfl, ?_⟩;exact Xp
    ·by_cases b2:1000000000000000<bel
     ·have hf:Hid (X7 n d=Y3):=by show _=_;rw [hfin.out,if_pos (.inr b2)]
      go_wp2
      refine bodyPost_ret (v:=.agg #[.int .i64 0,.int .i64 0]) (by simp [results,Tryz.results44,go_sem, *]) rfl ⟨by rw [hf.out];rfl, ?_⟩;exact Xp
     ·have hf:Hid (X7 n d=if sn=sd then ⟨(top:Int),(bel:Int)⟩ else ⟨-(top:Int),(bel:Int)⟩):=by show _=_;rw [hfin.out,if_neg (by omega)]
      cases sn<;>cases sd
      ·go_wp2
       refine bodyPost_ret (v:=.agg #[.int .i64 (top:Int),.int .i64 (bel:Int)]) (by simp [results,Tryz.results44,go_sem, *]) rfl ⟨by rw [hf.out];rfl, ?_⟩;exact Xp
      ·go_wp2
       refine bodyPost_ret (v:=.agg #[.int .i64 (-(top:Int)),.int .i64 (bel:Int)]) (by simp [results,Tryz.results44,go_sem, *]) rfl ⟨by rw [hf.out];rfl, ?_⟩;exact Xp
      ·go_wp2
       refine bodyPost_ret (v:=.agg #[.int .i64 (-(top:Int)),.int .i64 (bel:Int)]) (by simp [results,Tryz.results44,go_sem, *]) rfl ⟨by rw [hf.out];rfl, ?_⟩;exact Xp
      ·go_wp2
       refine bodyPost_ret (v:=.agg #[.int .i64 (top:Int),.int .i64 (bel:Int)]) (by simp [results,Tryz.results44,go_sem, *]) rfl ⟨by rw [hf.out];rfl, ?_⟩;exact Xp
   ·have hfin:X7 n d=Y3:=by simp [X7,md]
    rw [hfin];have n2:=m2 _ md;clear m1 m2 mn md;go_enter Tryz.func44,Tryz.ntmps44
    go_wp2_with (first|(go_at_call_of 129 (Value.int IntKind.i64 n);refine (n1 _).mono ?_;rintro e w' ⟨rfl,rfl⟩)|(go_at_call 129;refine (n2 _).mono ?_;rintro e w' ⟨rfl,rfl⟩))
    refine bodyPost_ret (v:=.agg #[.int .i64 0,.int .i64 0]) (by simp [results,Tryz.results44,go_sem]) rfl ⟨rfl, ?_⟩;exact Xp
  ·have hfin:X7 n d=Y3:=by simp [X7,mn]
   rw [hfin];have n1:=m1 _ mn;clear m1 m2 mn;go_enter Tryz.func44,Tryz.ntmps44
   go_wp2_with (fail)
   refine (n1 _).mono ?_;rintro e w' ⟨rfl,rfl⟩;go_wp2
   refine bodyPost_ret (v:=.agg #[.int .i64 0,.int .i64 0]) (by simp [results,Tryz.results44,go_sem]) rfl ⟨rfl, ?_⟩;exact Xp
theorem heap_size_setCells (b:Nat):∀ (vs:List Value) (o:Nat) (w:World),(w.setCells b o vs).heap.size=w.heap.size
 | [],_,_=>rfl
 | v :: r,o,w=>by rw [World.setCells,heap_size_setCells b r];simp [World.setCell]
theorem Yk.stored {w:World} {g:Nat} {vs:List Value} (h:Yk w g vs) (us:List Value) (hl:us.length=vs.length):Yk (w.setCells g 0 us) g us:=by
 refine ⟨by rw [heap_size_setCells];exact h.1,λ j v hv=>?_⟩;have hj:j<us.length:=by
  rcases Nat.lt_or_ge j us.length with h|h
  ·exact h
  ·rw [List.getElem?_eq_none h] at hv;cases hv
 constructor
 ·have:=World.cell?_setCells_in g us 0 w (λ k hk=>by rw [Nat.zero_add,(h.2 k _ (List.getElem?_eq_getElem (by omega))).1];rfl) j hj;rw [Nat.zero_add] at this;rw [this,<- hv,List.getElem?_eq_getElem hj]
 ·rw [World.frozen?_setCells];exact (h.2 j _ (List.getElem?_eq_getElem (by omega))).2
theorem ZY {a w:World} {n:Nat} (h:(∀ b o,b<n->w.cell? ⟨b,o,none⟩=a.cell? ⟨b,o,none⟩)/\n<=w.heap.size) :
 (∀ b o',b<n->w.drew.cell? ⟨b,o',none⟩=a.cell? ⟨b,o',none⟩)/\n<=w.drew.heap.size:=h
theorem ZX (a:World) {n:Nat} (h:n<=a.heap.size):(∀ b o',b<n->a.cell? ⟨b,o',none⟩=a.cell? ⟨b,o',none⟩)/\n<=a.heap.size:=⟨λ _ _ _=>rfl,h⟩
theorem red3 {a b c:Int} (h:0<Xl [a,b,c]):Xl [a.tdiv (Xl [a,b,c]),b.tdiv (Xl [a,b,c]),c.tdiv (Xl [a,b,c])]=1:=by
 have e:=gcd3 a b c;rw [gcd3 (a.tdiv _)];simp only [natAbs_tdiv];generalize Xl [a,b,c]=g at *;have d1:g ∣ a.natAbs:=by rw [e];exact Nat.dvd_trans (Nat.gcd_dvd_left _ _) (Nat.gcd_dvd_left _ _)
 have d2:g ∣ b.natAbs:=by rw [e];exact Nat.dvd_trans (Nat.gcd_dvd_left _ _) (Nat.gcd_dvd_right _ _)
 have d3:g ∣ c.natAbs:=by rw [e];exact Nat.gcd_dvd_right _ _
 rw [Nat.gcd_div d1 d2,Nat.gcd_div (Nat.dvd_gcd d1 d2) d3,<- e];exact Nat.div_self h
def shiftSpot (s:XQ) (dx dy:Int):Option XQ :=
 if Xv s=true/\Z7 dx (-2000) 2000=true/\Z7 dy (-2000) 2000=true then Zw (s.x+dx*s.d) (s.y+dy*s.d) s.d else none
structure SB (s:XQ) (dx dy:Int):Prop where
 d:1<=s.d/\s.d<=5000000000
 x : -5000000000000<=s.x/\s.x<=5000000000000
 y : -5000000000000<=s.y/\s.y<=5000000000000
 m : -10000000000000<=dx*s.d/\dx*s.d<=10000000000000
 n : -10000000000000<=dy*s.d/\dy*s.d<=10000000000000
def sh (s:XQ) (dx dy:Int):Nat->Option XQ
 | 0=>shiftSpot s (-dx) (-dy)
 | 1=>shiftSpot s dx (-dy)
 | 2=>shiftSpot s dx dy
 | _=>shiftSpot s (-dx) dy
theorem J6 {a b A B:Int} (hA : -A<=a/\a<=A) (hB : -B<=b/\b<=B) : -(A*B)<=a*b/\a*b<=A*B:=by
 have h1:0<=(A-a)*(B-b):=Int.mul_nonneg (by omega) (by omega);have h2:0<=(A+a)*(B+b):=Int.mul_nonneg (by omega) (by omega);have h3:0<=(A-a)*(B+b):=Int.mul_nonneg (by omega) (by omega);have h4:0<=(A+a)*(B-b):=Int.mul_nonneg (by omega) (by omega);rw [Int.sub_mul,Int.mul_sub,Int.mul_sub] at h1;rw [Int.add_mul,Int.mul_add,Int.mul_add] at h2;rw [Int.sub_mul,Int.mul_add,Int.mul_add] at h3;rw [Int.add_mul,Int.mul_sub,Int.mul_sub] at h4;omega
theorem sgn_le {x:Int}:sgn x<=0 ↔ x<=0:=by unfold sgn;split<;>(try split)<;>omega
def Kj:XQ:=⟨0,0,0⟩
def JS (xs:List XQ) (a b:Int) (k:Nat):Int:=a*(xs.getD k Kj).x+b*(xs.getD k Kj).y
def JI (xs:List XQ) (k:Nat):Int:=(xs.getD k Kj).d
def Zj (xs:List XQ) (a b:Int):Nat->Int × Int × Int
 | 0=>(-1,0,0)
 | k+1=>if (Zj xs a b k).1<0∨0<cmpF (JS xs a b k) (JI xs k) (Zj xs a b k).2.1 (Zj xs a b k).2.2 then ((k:Int),JS xs a b k,JI xs k) else Zj xs a b k
theorem far_get {xs:List XQ} {k:Nat} (h:k<xs.length):xs.getD k Kj=xs[k]:=by
 rw [List.getD_eq_getElem?_getD,List.getElem?_eq_getElem h];rfl
theorem farAt_yes {xs:List XQ} {a b:Int} {k:Nat} (h:(Zj xs a b k).1<0∨0<cmpF (JS xs a b k) (JI xs k) (Zj xs a b k).2.1 (Zj xs a b k).2.2):Zj xs a b (k+1)=((k:Int),JS xs a b k,JI xs k):=by
 rw [Zj,if_pos h]
theorem farAt_no {xs:List XQ} {a b:Int} {k:Nat} (h:¬((Zj xs a b k).1<0∨0<cmpF (JS xs a b k) (JI xs k) (Zj xs a b k).2.1 (Zj xs a b k).2.2)):Zj xs a b (k+1)=Zj xs a b k:=by
 rw [Zj,if_neg h]
end Go.Proofs.YtabfdkpdppemaaaGreat
