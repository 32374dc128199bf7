/-
 The functions on tables: what they return.
 Conditions: the slice of cells holds at most 2^20 ints.
-/
import Derived.Test.YtbekjpkcicjcgabGreatGrC
import Derived.StillTailTactics
set_option maxHeartbeats 2000000
namespace Go.Proofs.YtbekjpkcicjcgabGreat
open Go.RowKit
structure Tab where
 x0:Int
 y0:Int
 step:Int
 nx:Int
 ny:Int
 cells:List Int
def Tab.In (t:Tab):Prop:=Yo t.x0/\Yo t.y0/\Yo t.step/\Yo t.nx/\Yo t.ny
theorem XI.low {α:Type} {T sz:Nat} {enc:α->List Value} {w:World} {base:Nat} {v:Value} {xs:List α} (h:XI T sz enc w base v xs) {p:Addr} (hp:p.block<base) (u:Value):XI T sz enc (w.setCell p u) base v xs:=by
 obtain ⟨A,cap,rfl,ho⟩:=h;exact ⟨A,cap,rfl,ownsRow_setCell_below ho hp u⟩
structure XJ (w:World) (base:Nat) (x:List Half) (a:ZC):Prop where
 halves:XI 85 3 Xe w base (.slice a.A (List.length x) a.c) x
theorem XJ.sl {w:World} {base:Nat} {x:List Half} {a:ZC} (h:XJ w base x a):Zn w x a:=⟨h.halves.out Xu⟩
theorem XJ.below {w w':World} {base B:Nat} {x:List Half} {a:ZC} (h:XJ w base x a) (hb:Below B w w') (hB:w.heap.size<=B):XJ w' base x a:=⟨h.halves.below hb hB⟩
theorem XJ.mono {w:World} {base base':Nat} {x:List Half} {a:ZC} (h:XJ w base x a) (hb:base'<=base):XJ w base' x a:=⟨h.halves.mono hb⟩
theorem XJ.low {w:World} {base:Nat} {x:List Half} {a:ZC} (h:XJ w base x a) {p:Addr} (hp:p.block<base) (u:Value):XJ (w.setCell p u) base x a:=⟨h.halves.low hp u⟩
theorem XJ.blk {w:World} {base:Nat} {x:List Half} {a:ZC} (h:XJ w base x a):Blk base w.heap.size a:=h.halves.blk
structure Yi (w:World) (base:Nat) (x:XK) (a:Yq):Prop where
 map:XI 3 1 KX w base (.slice a.map.A (List.length x.map) a.map.c) x.map
 noise:XJ w base x.noise a.noise
 limits:XJ w base x.limits a.limits
 apart:List.Pairwise Jf [a.map,a.noise,a.limits]
theorem Yi.sl {w:World} {base:Nat} {x:XK} {a:Yq} (h:Yi w base x a):Y4 w x a:=⟨h.map.out Zc,h.noise.sl,h.limits.sl⟩
theorem Yi.below {w w':World} {base B:Nat} {x:XK} {a:Yq} (h:Yi w base x a) (hb:Below B w w') (hB:w.heap.size<=B):Yi w' base x a:=⟨h.map.below hb hB,h.noise.below hb hB,h.limits.below hb hB,h.apart⟩
theorem Yi.mono {w:World} {base base':Nat} {x:XK} {a:Yq} (h:Yi w base x a) (hb:base'<=base):Yi w base' x a:=⟨h.map.mono hb,h.noise.mono hb,h.limits.mono hb,h.apart⟩
theorem Yi.low {w:World} {base:Nat} {x:XK} {a:Yq} (h:Yi w base x a) {p:Addr} (hp:p.block<base) (u:Value):Yi (w.setCell p u) base x a:=⟨h.map.low hp u,h.noise.low hp u,h.limits.low hp u,h.apart⟩
theorem Yi.blk {w:World} {base:Nat} {x:XK} {a:Yq} (h:Yi w base x a):Blk base w.heap.size a.map/\Blk base w.heap.size a.noise/\Blk base w.heap.size a.limits:=⟨h.map.blk,h.noise.blk,h.limits.blk⟩
structure YM (w:World) (base:Nat) (x:Watch) (a:JY):Prop where
 room:Yi w base x.room a.room
 reg:XJ w base x.reg a.reg
 log:XI 3 1 KX w base (.slice a.log.A (List.length x.log) a.log.c) x.log
 apart:List.Pairwise Jf [a.room.map,a.room.noise,a.room.limits,a.reg,a.log]
theorem YM.sl {w:World} {base:Nat} {x:Watch} {a:JY} (h:YM w base x a):WatchSl w x a:=⟨h.room.sl,h.reg.sl,h.log.out Zc⟩
theorem YM.below {w w':World} {base B:Nat} {x:Watch} {a:JY} (h:YM w base x a) (hb:Below B w w') (hB:w.heap.size<=B):YM w' base x a:=⟨h.room.below hb hB,h.reg.below hb hB,h.log.below hb hB,h.apart⟩
theorem YM.mono {w:World} {base base':Nat} {x:Watch} {a:JY} (h:YM w base x a) (hb:base'<=base):YM w base' x a:=⟨h.room.mono hb,h.reg.mono hb,h.log.mono hb,h.apart⟩
theorem YM.low {w:World} {base:Nat} {x:Watch} {a:JY} (h:YM w base x a) {p:Addr} (hp:p.block<base) (u:Value):YM (w.setCell p u) base x a:=⟨h.room.low hp u,h.reg.low hp u,h.log.low hp u,h.apart⟩
theorem YM.blk {w:World} {base:Nat} {x:Watch} {a:JY} (h:YM w base x a):Blk base w.heap.size a.room.map/\Blk base w.heap.size a.room.noise/\Blk base w.heap.size a.room.limits/\Blk base w.heap.size a.reg/\Blk base w.heap.size a.log:=⟨h.room.blk.1,h.room.blk.2.1,h.room.blk.2.2,h.reg.blk,h.log.blk⟩
structure YN (w:World) (base:Nat) (x:Track) (a:JZ):Prop where
 spots:XI 30 3 spotC w base (.slice a.spots.A (List.length x.spots) a.spots.c) x.spots
 inputs:XI 45 2 ratioC w base (.slice a.inputs.A (List.length x.inputs) a.inputs.c) x.inputs
 apart:List.Pairwise Jf [a.spots,a.inputs]
theorem YN.sl {w:World} {base:Nat} {x:Track} {a:JZ} (h:YN w base x a):TrackSl w x a:=⟨h.spots.out spotC_len,h.inputs.out ratioC_len⟩
theorem YN.below {w w':World} {base B:Nat} {x:Track} {a:JZ} (h:YN w base x a) (hb:Below B w w') (hB:w.heap.size<=B):YN w' base x a:=⟨h.spots.below hb hB,h.inputs.below hb hB,h.apart⟩
theorem YN.mono {w:World} {base base':Nat} {x:Track} {a:JZ} (h:YN w base x a) (hb:base'<=base):YN w base' x a:=⟨h.spots.mono hb,h.inputs.mono hb,h.apart⟩
theorem YN.low {w:World} {base:Nat} {x:Track} {a:JZ} (h:YN w base x a) {p:Addr} (hp:p.block<base) (u:Value):YN (w.setCell p u) base x a:=⟨h.spots.low hp u,h.inputs.low hp u,h.apart⟩
theorem YN.blk {w:World} {base:Nat} {x:Track} {a:JZ} (h:YN w base x a):Blk base w.heap.size a.spots/\Blk base w.heap.size a.inputs:=⟨h.spots.blk,h.inputs.blk⟩
structure XS (w:World) (base:Nat) (x:KS) (a:KW):Prop where
 lows:XI 49 4 Yy w base (.slice a.lows.A (List.length x.lows) a.lows.c) x.lows
 highs:XI 49 4 Yy w base (.slice a.highs.A (List.length x.highs) a.highs.c) x.highs
 apart:List.Pairwise Jf [a.lows,a.highs]
theorem XS.sl {w:World} {base:Nat} {x:KS} {a:KW} (h:XS w base x a):J3 w x a:=⟨h.lows.out Zv,h.highs.out Zv⟩
theorem XS.below {w w':World} {base B:Nat} {x:KS} {a:KW} (h:XS w base x a) (hb:Below B w w') (hB:w.heap.size<=B):XS w' base x a:=⟨h.lows.below hb hB,h.highs.below hb hB,h.apart⟩
theorem XS.mono {w:World} {base base':Nat} {x:KS} {a:KW} (h:XS w base x a) (hb:base'<=base):XS w base' x a:=⟨h.lows.mono hb,h.highs.mono hb,h.apart⟩
theorem XS.low {w:World} {base:Nat} {x:KS} {a:KW} (h:XS w base x a) {p:Addr} (hp:p.block<base) (u:Value):XS (w.setCell p u) base x a:=⟨h.lows.low hp u,h.highs.low hp u,h.apart⟩
theorem XS.blk {w:World} {base:Nat} {x:KS} {a:KW} (h:XS w base x a):Blk base w.heap.size a.lows/\Blk base w.heap.size a.highs:=⟨h.lows.blk,h.highs.blk⟩
def eqB {α:Type} [DecidableEq α] (xs ys:List α):Bool:=decide (xs=ys)
theorem eqB_len {α:Type} [DecidableEq α] {xs ys:List α} (h:xs.length≠ys.length):eqB xs ys=false:=by
 simp only [eqB,decide_eq_false_iff_not];intro e;exact h (by rw [e])
theorem eqB_no {α:Type} [DecidableEq α] {xs ys:List α} {k:Nat} (h1:k<xs.length) (h2:k<ys.length) (h:xs[k]≠ys[k]):eqB xs ys=false:=by
 simp only [eqB,decide_eq_false_iff_not];intro e;subst e;exact h rfl
theorem eqB_yes {α:Type} [DecidableEq α] {xs ys:List α} (h1:xs.length=ys.length) (h:xs.take xs.length=ys.take xs.length):eqB xs ys=true:=by
 rw [List.take_length] at h;rw [h1,List.take_length] at h;simp [eqB,h]
theorem take_step {α:Type} {xs ys:List α} {k:Nat} (h1:k<xs.length) (h2:k<ys.length) (h:xs.take k=ys.take k) (he:xs[k]=ys[k]):xs.take (k+1)=ys.take (k+1):=by
 rw [Y8 xs k h1,Y8 ys k h2,h,he]
theorem half_ne {p q:Half} (h:p≠q):(p.a == q.a)=false∨(p.a=q.a/\(p.b == q.b)=false)∨(p.a=q.a/\p.b=q.b/\(p.c == q.c)=false):=by
 obtain ⟨a,b,c⟩:=p;obtain ⟨a',b',c'⟩:=q;by_cases h1:a=a'
 ·by_cases h2:b=b'
  ·by_cases h3:c=c'
   ·subst h1 h2 h3;exact absurd rfl h
   ·exact .inr (.inr ⟨h1,h2,by simpa using h3⟩)
  ·exact .inr (.inl ⟨h1,by simpa using h2⟩)
 ·exact .inl (by simpa using h1)
theorem Sl.drawn {α:Type} {sz:Nat} {enc:α->List Value} {w w':World} {A:Option Addr} {xs:List α} (h:Sl sz enc w A xs) (hd:Drawn w w'):Sl sz enc w' A xs:=by
 obtain ⟨n,rfl⟩:=hd;exact h.drewN n
theorem eqHalves_q (A B:Option Addr) (xs ys:List Half) (c d:Nat) (w:World) (hx:xs.length<=1048576) (_:ys.length<=1048576) (ha:Sl 3 Xe w A xs) (hb:Sl 3 Xe w B ys) :
 Calls Tryz.prog 111 #[.slice A xs.length c,.slice B ys.length d] w λ e w'=>e=.returned (.bool (eqB xs ys))/\∃ n,w'=w.drewN n:=by
 by_cases hl:xs.length=ys.length
 ·have hfin:=λ h=>Lib.hid (eqB_yes (xs:=xs) (ys:=ys) hl h);have hno:=λ k h1 h2 h=>Lib.hid (@eqB_no Half _ xs ys k h1 h2 h);have HL:=Lib.hid hl;have i0:((xs.length:Int) != (ys.length:Int))=false:=by simp [hl]
  clear hl;have hfin2:=Lib.hid hfin;have hno2:=Lib.hid hno;clear hfin hno;go_enter Tryz.func111,Tryz.ntmps111
  go_wp2
  go_loopw [5,13] (λ x i wr=>∃ k:Nat,k<=xs.length/\i=.int .i64 k/\Hid (xs.take k=ys.take k)/\Drawn w wr) (λ _ i _=>xs.length-(intOf i).toNat)
  case atStart=>exact ⟨0,Nat.zero_le _,rfl,by simp [Hid],Drawn.refl _⟩
  case round =>
   obtain ⟨k,hk,rfl,htk,hd⟩:=hrel;by_cases hlt:k<xs.length
   ·have hlt2:k<ys.length:=by have:=HL.out;omega
    obtain ⟨b,off,rfl,hblt,hc⟩:=(ha.drawn hd).at_ hlt;obtain ⟨b',off',rfl,hblt',hc'⟩:=(hb.drawn hd).at_ hlt2;have g0:=hc 0 _ rfl;have g1:=hc 1 _ rfl;have g2:=hc 2 _ rfl;have g3:=hc' 0 _ rfl;have g4:=hc' 1 _ rfl;have g5:=hc' 2 _ rfl;clear hc hc';simp only [Nat.add_zero] at g0 g3;have i1:(0:Int)<=(k:Int):=by omega
    have i2:(k:Int)<(xs.length:Int):=by omega
    have i3:(k:Int)<(ys.length:Int):=by omega
    by_cases he:xs[k]=ys[k]
    ·have hst:=Lib.hid (take_step hlt hlt2 htk.out he);rw [<- he] at g3 g4 g5;generalize xs[k]=p at *;clear he htk;go_wp2
     go_quiet (fail)
     go_wp2
     go_roundw
     case rel=>exact ⟨k+1,by omega,by go_num,hst,Drawn.drewN hd _⟩
     case measure=>simp [intOf];omega
    ·have hst:=hno2.out k hlt hlt2 he;have q:=half_ne he;generalize xs[k]=p at *;generalize ys[k]=p' at *;clear he htk;obtain ⟨a1,b1,c1⟩:=p;obtain ⟨a2,b2,c2⟩:=p';simp only at q g0 g1 g2 g3 g4 g5;rcases q with q|⟨rfl,q⟩|⟨rfl,rfl,q⟩
     all_goals
      go_wp2
      go_quiet (fail)
      go_wp2
      refine bodyPost_ret (v:=.bool false) (by simp [results,Tryz.results111,go_sem]) rfl ⟨by rw [hst.out], ?_⟩;exact (Drawn.drewN hd _).out
   ·obtain rfl:k=xs.length:=by omega
    have hst:=hfin2.out htk.out;clear htk;go_wp2
    go_ret
    exact ⟨Xi hst.out.symm,hd.out⟩
 ·have hst:=Lib.hid (eqB_len hl);have i0:((xs.length:Int) != (ys.length:Int))=true:=by simp;omega
  go_enter Tryz.func111,Tryz.ntmps111
  go_wp2
  go_ret
  exact ⟨Xi hst.out.symm,0,rfl⟩
theorem iSameRegion_c (p q:List Half) (a b:ZC) (w:World) (hp:p.length<=1048576) (hq:q.length<=1048576) (ha:Sl 3 Xe w a.A p) (hb:Sl 3 Xe w b.A q) :
 Calls Tryz.prog 79 #[Yr p a,Yr q b] w λ e w'=>e=.returned (.bool (eqB p q))/\Below w.heap.size w w':=by
 go_enter Tryz.func79,Tryz.ntmps79
 go_wp2_with (fail)
 refine (eqHalves_q a.A b.A p q _ _ _ hp hq (Sl.below ha (by exact Xn)) (Sl.below hb (by exact Xn))).mono ?_;rintro e w' ⟨rfl,n,rfl⟩;go_wp2
 go_ret
 refine ⟨rfl, ?_⟩;exact Xn
set_option maxRecDepth 100000 in
theorem sSameRegion_c (p q:List Half) (a b:ZC) (w:World) (hp:p.length<=1048576) (_:q.length<=1048576) (ha:Sl 3 Xe w a.A p) (hb:Sl 3 Xe w b.A q) :
 Calls Tryz.prog 98 #[Yr p a,Yr q b] w λ e w'=>e=.returned (.bool (eqB p q))/\Below w.heap.size w w':=by
 obtain ⟨A,ca⟩:=a;obtain ⟨B,cb⟩:=b;by_cases hl:p.length=q.length
 ·have hfin:=Lib.hid (λ h=>Lib.hid (eqB_yes (xs:=p) (ys:=q) hl h));have hno:=Lib.hid (λ k h1 h2 h=>Lib.hid (@eqB_no Half _ p q k h1 h2 h));have HL:=Lib.hid hl;have i0:((p.length:Int) != (q.length:Int))=false:=by simp [hl]
  clear hl;go_enter Tryz.func98,Tryz.ntmps98
  go_wp2
  go_loopw [5,6,17] (λ _ _ i wr=>∃ k:Nat,k<=p.length/\i=.int .i64 k/\Hid (p.take k=q.take k)/\Below ((w.alloc (.cells #[.slice A p.length ca] 26)).alloc (.cells #[.slice B q.length cb] 26)).heap.size ((w.alloc (.cells #[.slice A p.length ca] 26)).alloc (.cells #[.slice B q.length cb] 26)) wr) (λ _ _ i _=>p.length-(intOf i).toNat)
  case atStart=>exact ⟨0,Nat.zero_le _,rfl,by simp [Hid],Below.refl _ _⟩
  case round =>
   obtain ⟨k,hk,rfl,htk,hbw⟩:=hrel;have r0:=Xt hbw;have l0:w.heap.size<wr.heap.size:=XN hbw;have l1:w.heap.size+1<wr.heap.size:=XN hbw;by_cases hlt:k<p.length
   ·have hlt2:k<q.length:=by have:=HL.out;omega
    obtain ⟨b,off,rfl,hblt,hc⟩:=(Sl.below ha (by exact Xn:Below w.heap.size w wr)).at_ hlt;obtain ⟨b',off',rfl,hblt',hc'⟩:=(Sl.below hb (by exact Xn:Below w.heap.size w wr)).at_ hlt2;have g0:=hc 0 _ rfl;have g1:=hc 1 _ rfl;have g2:=hc 2 _ rfl;have g3:=hc' 0 _ rfl;have g4:=hc' 1 _ rfl;have g5:=hc' 2 _ rfl;clear hc hc';simp only [Nat.add_zero] at g0 g3;have i1:(0:Int)<=(k:Int):=by omega
    have i2:(k:Int)<(p.length:Int):=by omega
    have i3:(k:Int)<(q.length:Int):=by omega
    by_cases he:p[k]=q[k]
    ·have hst:=Lib.hid (take_step hlt hlt2 htk.out he);rw [<- he] at g3 g4 g5;generalize p[k]=x at *;clear he htk;go_wp2
     go_quiet (fail)
     go_wp2
     go_roundw
     case rel =>
      refine ⟨k+1,by omega,by go_num,hst, ?_⟩;exact Xn
     case measure=>simp [intOf];omega
    ·have hst:=hno.out k hlt hlt2 he;have q1:=half_ne he;generalize p[k]=x at *;generalize q[k]=x' at *;clear he htk;obtain ⟨a1,b1,c1⟩:=x;obtain ⟨a2,b2,c2⟩:=x';simp only at q1 g0 g1 g2 g3 g4 g5;rcases q1 with q1|⟨rfl,q1⟩|⟨rfl,rfl,q1⟩
     all_goals
      go_wp2
      go_quiet (fail)
      go_wp2
      refine bodyPost_ret (v:=.bool false) (by simp [results,Tryz.results98,go_sem]) rfl ⟨by rw [hst.out], ?_⟩;exact Xn
   ·obtain rfl:k=p.length:=by omega
    have hst:=hfin.out htk.out;clear htk;go_wp2
    go_ret
    refine ⟨Xi hst.out.symm, ?_⟩;exact Xn
 ·have hst:=Lib.hid (eqB_len hl);have i0:((p.length:Int) != (q.length:Int))=true:=by simp;omega
  go_enter Tryz.func98,Tryz.ntmps98
  go_wp2
  go_ret
  refine ⟨Xi hst.out.symm, ?_⟩;exact Xn
end Go.Proofs.YtbekjpkcicjcgabGreat
