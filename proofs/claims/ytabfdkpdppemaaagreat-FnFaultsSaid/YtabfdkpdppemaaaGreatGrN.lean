/-
 The functions on tables: what they return.
 Conditions: the slice of cells holds at most 2^20 ints.
-/
import Derived.StillTailTactics
import Derived.Deep.RegionHeld3
import Derived.Deep.RegionWith
import Derived.Test.YtabfdkpdppemaaaGreatGrG
import Derived.Deep.DeepCutAuto
import Derived.Deep.DeepMust
import Derived.ProofKit
import Derived.OpenShut
import Derived.ChangeOld
import Derived.Below
set_option maxHeartbeats 4000000
set_option maxRecDepth 100000
namespace Go.Proofs.YtabfdkpdppemaaaGreat
open Go.RowKit
structure Tab where
 x0:Int
 y0:Int
 step:Int
 nx:Int
 ny:Int
 cells:List Int
def Tab.In (t:Tab):Prop:=Zg t.x0/\Zg t.y0/\Zg t.step/\Zg t.nx/\Zg t.ny
theorem XH.low {α:Type} {T sz:Nat} {enc:α->List Value} {w:World} {base:Nat} {v:Value} {xs:List α} (h:XH T sz enc w base v xs) {p:Addr} (hp:p.block<base) (u:Value):XH T sz enc (w.setCell p u) base v xs:=by
 obtain ⟨A,cap,rfl,ho⟩:=h;exact ⟨A,cap,rfl,ownsRow_setCell_below ho hp u⟩
structure X3 (w:World) (base:Nat) (x:List Half) (a:Ks):Prop where
 halves:XH 174 3 Xg w base (.slice a.A (List.length x) a.c) x
theorem X3.sl {w:World} {base:Nat} {x:List Half} {a:Ks} (h:X3 w base x a):RegionSl w x a:=⟨h.halves.out Xx⟩
theorem X3.below {w w':World} {base B:Nat} {x:List Half} {a:Ks} (h:X3 w base x a) (hb:Below B w w') (hB:w.heap.size<=B):X3 w' base x a:=⟨h.halves.below hb hB⟩
theorem X3.mono {w:World} {base base':Nat} {x:List Half} {a:Ks} (h:X3 w base x a) (hb:base'<=base):X3 w base' x a:=⟨h.halves.mono hb⟩
theorem X3.low {w:World} {base:Nat} {x:List Half} {a:Ks} (h:X3 w base x a) {p:Addr} (hp:p.block<base) (u:Value):X3 (w.setCell p u) base x a:=⟨h.halves.low hp u⟩
theorem X3.blk {w:World} {base:Nat} {x:List Half} {a:Ks} (h:X3 w base x a):Blk base w.heap.size a:=h.halves.blk
structure Yr (w:World) (base:Nat) (x:Xv) (a:YO):Prop where
 map:XH 3 1 Kf w base (.slice a.map.A (List.length x.map) a.map.c) x.map
 noise:X3 w base x.noise a.noise
 limits:X3 w base x.limits a.limits
 apart:List.Pairwise Apart [a.map,a.noise,a.limits]
theorem Yr.sl {w:World} {base:Nat} {x:Xv} {a:YO} (h:Yr w base x a):Zw w x a:=⟨h.map.out ZT,h.noise.sl,h.limits.sl⟩
theorem Yr.below {w w':World} {base B:Nat} {x:Xv} {a:YO} (h:Yr w base x a) (hb:Below B w w') (hB:w.heap.size<=B):Yr w' base x a:=⟨h.map.below hb hB,h.noise.below hb hB,h.limits.below hb hB,h.apart⟩
theorem Yr.mono {w:World} {base base':Nat} {x:Xv} {a:YO} (h:Yr w base x a) (hb:base'<=base):Yr w base' x a:=⟨h.map.mono hb,h.noise.mono hb,h.limits.mono hb,h.apart⟩
theorem Yr.low {w:World} {base:Nat} {x:Xv} {a:YO} (h:Yr w base x a) {p:Addr} (hp:p.block<base) (u:Value):Yr (w.setCell p u) base x a:=⟨h.map.low hp u,h.noise.low hp u,h.limits.low hp u,h.apart⟩
theorem Yr.blk {w:World} {base:Nat} {x:Xv} {a:YO} (h:Yr w base x a):Blk base w.heap.size a.map/\Blk base w.heap.size a.noise/\Blk base w.heap.size a.limits:=⟨h.map.blk,h.noise.blk,h.limits.blk⟩
structure YF (w:World) (base:Nat) (x:J7) (a:WatchA):Prop where
 room:Yr w base x.room a.room
 reg:X3 w base x.reg a.reg
 log:XH 3 1 Kf w base (.slice a.log.A (List.length x.log) a.log.c) x.log
 apart:List.Pairwise Apart [a.room.map,a.room.noise,a.room.limits,a.reg,a.log]
theorem YF.sl {w:World} {base:Nat} {x:J7} {a:WatchA} (h:YF w base x a):WatchSl w x a:=⟨h.room.sl,h.reg.sl,h.log.out ZT⟩
theorem YF.below {w w':World} {base B:Nat} {x:J7} {a:WatchA} (h:YF w base x a) (hb:Below B w w') (hB:w.heap.size<=B):YF w' base x a:=⟨h.room.below hb hB,h.reg.below hb hB,h.log.below hb hB,h.apart⟩
theorem YF.mono {w:World} {base base':Nat} {x:J7} {a:WatchA} (h:YF w base x a) (hb:base'<=base):YF w base' x a:=⟨h.room.mono hb,h.reg.mono hb,h.log.mono hb,h.apart⟩
theorem YF.low {w:World} {base:Nat} {x:J7} {a:WatchA} (h:YF w base x a) {p:Addr} (hp:p.block<base) (u:Value):YF (w.setCell p u) base x a:=⟨h.room.low hp u,h.reg.low hp u,h.log.low hp u,h.apart⟩
theorem YF.blk {w:World} {base:Nat} {x:J7} {a:WatchA} (h:YF w base x a):Blk base w.heap.size a.room.map/\Blk base w.heap.size a.room.noise/\Blk base w.heap.size a.room.limits/\Blk base w.heap.size a.reg/\Blk base w.heap.size a.log:=⟨h.room.blk.1,h.room.blk.2.1,h.room.blk.2.2,h.reg.blk,h.log.blk⟩
structure Kh (w:World) (base:Nat) (x:Track) (a:TrackA):Prop where
 spots:XH 30 3 KU w base (.slice a.spots.A (List.length x.spots) a.spots.c) x.spots
 inputs:XH 36 2 ratioC w base (.slice a.inputs.A (List.length x.inputs) a.inputs.c) x.inputs
 apart:List.Pairwise Apart [a.spots,a.inputs]
theorem Kh.sl {w:World} {base:Nat} {x:Track} {a:TrackA} (h:Kh w base x a):TrackSl w x a:=⟨h.spots.out JM,h.inputs.out ratioC_len⟩
theorem Kh.below {w w':World} {base B:Nat} {x:Track} {a:TrackA} (h:Kh w base x a) (hb:Below B w w') (hB:w.heap.size<=B):Kh w' base x a:=⟨h.spots.below hb hB,h.inputs.below hb hB,h.apart⟩
theorem Kh.mono {w:World} {base base':Nat} {x:Track} {a:TrackA} (h:Kh w base x a) (hb:base'<=base):Kh w base' x a:=⟨h.spots.mono hb,h.inputs.mono hb,h.apart⟩
theorem Kh.low {w:World} {base:Nat} {x:Track} {a:TrackA} (h:Kh w base x a) {p:Addr} (hp:p.block<base) (u:Value):Kh (w.setCell p u) base x a:=⟨h.spots.low hp u,h.inputs.low hp u,h.apart⟩
theorem Kh.blk {w:World} {base:Nat} {x:Track} {a:TrackA} (h:Kh w base x a):Blk base w.heap.size a.spots/\Blk base w.heap.size a.inputs:=⟨h.spots.blk,h.inputs.blk⟩
structure Jp (w:World) (base:Nat) (x:Law) (a:LawA):Prop where
 lows:XH 109 4 pieceC w base (.slice a.lows.A (List.length x.lows) a.lows.c) x.lows
 highs:XH 109 4 pieceC w base (.slice a.highs.A (List.length x.highs) a.highs.c) x.highs
 apart:List.Pairwise Apart [a.lows,a.highs]
theorem Jp.sl {w:World} {base:Nat} {x:Law} {a:LawA} (h:Jp w base x a):LawSl w x a:=⟨h.lows.out pieceC_len,h.highs.out pieceC_len⟩
theorem Jp.below {w w':World} {base B:Nat} {x:Law} {a:LawA} (h:Jp w base x a) (hb:Below B w w') (hB:w.heap.size<=B):Jp w' base x a:=⟨h.lows.below hb hB,h.highs.below hb hB,h.apart⟩
theorem Jp.mono {w:World} {base base':Nat} {x:Law} {a:LawA} (h:Jp w base x a) (hb:base'<=base):Jp w base' x a:=⟨h.lows.mono hb,h.highs.mono hb,h.apart⟩
theorem Jp.low {w:World} {base:Nat} {x:Law} {a:LawA} (h:Jp w base x a) {p:Addr} (hp:p.block<base) (u:Value):Jp (w.setCell p u) base x a:=⟨h.lows.low hp u,h.highs.low hp u,h.apart⟩
theorem Jp.blk {w:World} {base:Nat} {x:Law} {a:LawA} (h:Jp w base x a):Blk base w.heap.size a.lows/\Blk base w.heap.size a.highs:=⟨h.lows.blk,h.highs.blk⟩
theorem iRatioOf_c (n d:Int) (w:World) (hn:Zg n) (hd:Zg d) :
 Calls Tryz.prog 44 #[.int .i64 n,.int .i64 d] w λ e w'=>e=.returned (Yc (X6 n d))/\Below w.heap.size w w':=by
 have m1:=λ v h=>JN n v h hn;have m2:=λ v h=>JN d v h hd;by_cases hz:d=0
 ·have hfin:X6 n d=KB:=by simp [X6,hz]
  rw [hfin];subst hz;clear m1 m2;go_enter Tryz.func44,Tryz.ntmps44
  go_wp2
  refine bodyPost_ret (v:=.agg #[.int .i64 0,.int .i64 0]) (by simp [results,Tryz.results44,go_sem]) rfl ⟨rfl, ?_⟩;exact XF
 ·have hz2:(d == 0)=false:=by simpa using hz
  cases mn:Y4 n
  ·have n1:=m1 _ mn;cases md:Y4 d
   ·have n2:=m2 _ md;have hall:∀ k∈[n,d],Zg k:=by simp [hn,hd]
    have hg:=gcdOfAll_c (some ⟨w.heap.size+1,0,none⟩) [n,d] 2 _ (by simp) hall (sl_new_at (T:=3) ZT (w.alloc (.cells #[.int .i64 0,.int .i64 0] 36)) [n,d] #[.int .i64 n,.int .i64 d] rfl (by simp));have hle:=gcdAll_le [n,d] hall;have hpos:0<Xu [n,d]:=by rw [JW];exact Nat.gcd_pos_of_pos_right _ (by omega)
    have hfin:Hid (X6 n d=if 1000000000000000000<n.natAbs / Xu [n,d]∨1000000000000000<d.natAbs / Xu [n,d] then KB
     else if decide (n<0)=decide (d<0) then ⟨((n.natAbs / Xu [n,d]:Nat):Int),((d.natAbs / Xu [n,d]:Nat):Int)⟩
     else ⟨-((n.natAbs / Xu [n,d]:Nat):Int),((d.natAbs / Xu [n,d]:Nat):Int)⟩):=by
     show _=_;rw [X6,if_neg (by simp [hz,mn,md])]
    have c1:=λ W=>Jb n W hn;have c2:=λ W=>Jb d W hd;have a1:=natAbs_le hn;have a2:=natAbs_le hd;generalize Xu [n,d]=G at *;have l1:=Nat.div_le_self n.natAbs G;have l2:=Nat.div_le_self d.natAbs G;have q1:IntKind.u64.wrap ((n.natAbs:Int).tdiv (G:Int))=((n.natAbs / G:Nat):Int):=by rw [tdiv_nat];exact IntWalk.u64_in _ ⟨Int.natCast_nonneg _,by omega⟩
    have q2:IntKind.u64.wrap ((d.natAbs:Int).tdiv (G:Int))=((d.natAbs / G:Nat):Int):=by rw [tdiv_nat];exact IntWalk.u64_in _ ⟨Int.natCast_nonneg _,by omega⟩
    have q3:IntKind.u64.wrap ((n.natAbs:Int) / (G:Int))=((n.natAbs / G:Nat):Int):=by rw [<- Int.natCast_ediv];exact IntWalk.u64_in _ ⟨Int.natCast_nonneg _,by omega⟩
    have q4:IntKind.u64.wrap ((d.natAbs:Int) / (G:Int))=((d.natAbs / G:Nat):Int):=by rw [<- Int.natCast_ediv];exact IntWalk.u64_in _ ⟨Int.natCast_nonneg _,by omega⟩
    have hG1:¬ (G=0):=by omega
    have hG2:¬ ((G:Int)=0):=by omega
    generalize n.natAbs / G=top at *;generalize d.natAbs / G=bel at *;clear hn hd m1 m2 hall mn md hz;generalize hsn:decide (n<0)=sn at *;generalize hsd:decide (d<0)=sd at *;go_enter Tryz.func44,Tryz.ntmps44
    go_wp2_with (first|(go_at_call_of 129 (Value.int IntKind.i64 n);refine (n1 _).mono ?_;rintro e w' ⟨rfl,rfl⟩)|(go_at_call 129;refine (n2 _).mono ?_;rintro e w' ⟨rfl,rfl⟩))
    refine hg.mono ?_;rintro e w1 ⟨rfl,hb1⟩;have H1:=((Yi.new w #[.int .i64 0,.int .i64 0] 36).alloc _).below hb1;have hbw:=Xh (Xc (Xc (Below.refl w.heap.size w) _) _) hb1;go_wp2
    go_big_quiet ((first|(go_at_call_of 131 (Value.int IntKind.i64 n);exact KS (c1 _))|(go_at_call 131;exact KS (c2 _))))
    have H2:=H1.drewN nq;have hbw2:=ZJ hbw nq;generalize w1.drewN nq=w2 at *;obtain ⟨cH2_0,fH2_0⟩:=H2.2 0 _ rfl;obtain ⟨cH2_1,fH2_1⟩:=H2.2 1 _ rfl;have hlt2:=H2.1;clear q1 q2 q3 q4 hbw H1 hb1 hg;by_cases b1:1000000000000000000<top
    ·have hf:Hid (X6 n d=KB):=by show _=_;rw [hfin.out,if_pos (.inl b1)]
     go_wp2
     refine bodyPost_ret (v:=.agg #[.int .i64 0,.int .i64 0]) (by simp [results,Tryz.results44,go_sem, *]) rfl ⟨by rw [hf.out];rfl, ?_⟩;exact XF
    ·by_cases b2:1000000000000000<bel
     ·have hf:Hid (X6 n d=KB):=by show _=_;rw [hfin.out,if_pos (.inr b2)]
      go_wp2
      refine bodyPost_ret (v:=.agg #[.int .i64 0,.int .i64 0]) (by simp [results,Tryz.results44,go_sem, *]) rfl ⟨by rw [hf.out];rfl, ?_⟩;exact XF
     ·have hf:Hid (X6 n d=if sn=sd then ⟨(top:Int),(bel:Int)⟩ else ⟨-(top:Int),(bel:Int)⟩):=by show _=_;rw [hfin.out,if_neg (by omega)]
      cases sn<;>cases sd
      ·go_wp2
       refine bodyPost_ret (v:=.agg #[.int .i64 (top:Int),.int .i64 (bel:Int)]) (by simp [results,Tryz.results44,go_sem, *]) rfl ⟨by rw [hf.out];rfl, ?_⟩;exact XF
      ·go_wp2
       refine bodyPost_ret (v:=.agg #[.int .i64 (-(top:Int)),.int .i64 (bel:Int)]) (by simp [results,Tryz.results44,go_sem, *]) rfl ⟨by rw [hf.out];rfl, ?_⟩;exact XF
      ·go_wp2
       refine bodyPost_ret (v:=.agg #[.int .i64 (-(top:Int)),.int .i64 (bel:Int)]) (by simp [results,Tryz.results44,go_sem, *]) rfl ⟨by rw [hf.out];rfl, ?_⟩;exact XF
      ·go_wp2
       refine bodyPost_ret (v:=.agg #[.int .i64 (top:Int),.int .i64 (bel:Int)]) (by simp [results,Tryz.results44,go_sem, *]) rfl ⟨by rw [hf.out];rfl, ?_⟩;exact XF
   ·have hfin:X6 n d=KB:=by simp [X6,md]
    rw [hfin];have n2:=m2 _ md;clear m1 m2 mn md;go_enter Tryz.func44,Tryz.ntmps44
    go_wp2_with (first|(go_at_call_of 129 (Value.int IntKind.i64 n);refine (n1 _).mono ?_;rintro e w' ⟨rfl,rfl⟩)|(go_at_call 129;refine (n2 _).mono ?_;rintro e w' ⟨rfl,rfl⟩))
    refine bodyPost_ret (v:=.agg #[.int .i64 0,.int .i64 0]) (by simp [results,Tryz.results44,go_sem]) rfl ⟨rfl, ?_⟩;exact XF
  ·have hfin:X6 n d=KB:=by simp [X6,mn]
   rw [hfin];have n1:=m1 _ mn;clear m1 m2 mn;go_enter Tryz.func44,Tryz.ntmps44
   go_wp2_with (fail)
   refine (n1 _).mono ?_;rintro e w' ⟨rfl,rfl⟩;go_wp2
   refine bodyPost_ret (v:=.agg #[.int .i64 0,.int .i64 0]) (by simp [results,Tryz.results44,go_sem]) rfl ⟨rfl, ?_⟩;exact XF
theorem heap_size_setCells (b:Nat):∀ (vs:List Value) (o:Nat) (w:World),(w.setCells b o vs).heap.size=w.heap.size
 | [],_,_=>rfl
 | v :: r,o,w=>by rw [World.setCells,heap_size_setCells b r];simp [World.setCell]
theorem Yi.stored {w:World} {g:Nat} {vs:List Value} (h:Yi w g vs) (us:List Value) (hl:us.length=vs.length):Yi (w.setCells g 0 us) g us:=by
 refine ⟨by rw [heap_size_setCells];exact h.1,λ j v hv=>?_⟩;have hj:j<us.length:=by
  rcases Nat.lt_or_ge j us.length with h|h
  ·exact h
  ·rw [List.getElem?_eq_none h] at hv;cases hv
 constructor
 ·have:=World.cell?_setCells_in g us 0 w (λ k hk=>by rw [Nat.zero_add,(h.2 k _ (List.getElem?_eq_getElem (by omega))).1];rfl) j hj;rw [Nat.zero_add] at this;rw [this,<- hv,List.getElem?_eq_getElem hj]
 ·rw [World.frozen?_setCells];exact (h.2 j _ (List.getElem?_eq_getElem (by omega))).2
theorem ZO {a w:World} {n:Nat} (h:(∀ b o,b<n->w.cell? ⟨b,o,none⟩=a.cell? ⟨b,o,none⟩)/\n<=w.heap.size) :
 (∀ b o',b<n->w.drew.cell? ⟨b,o',none⟩=a.cell? ⟨b,o',none⟩)/\n<=w.drew.heap.size:=h
theorem ZN (a:World) {n:Nat} (h:n<=a.heap.size):(∀ b o',b<n->a.cell? ⟨b,o',none⟩=a.cell? ⟨b,o',none⟩)/\n<=a.heap.size:=⟨λ _ _ _=>rfl,h⟩
def eqB {α:Type} [DecidableEq α] (xs ys:List α):Bool:=decide (xs=ys)
theorem eqB_len {α:Type} [DecidableEq α] {xs ys:List α} (h:xs.length≠ys.length):eqB xs ys=false:=by
 simp only [eqB,decide_eq_false_iff_not];intro e;exact h (by rw [e])
theorem eqB_no {α:Type} [DecidableEq α] {xs ys:List α} {k:Nat} (h1:k<xs.length) (h2:k<ys.length) (h:xs[k]≠ys[k]):eqB xs ys=false:=by
 simp only [eqB,decide_eq_false_iff_not];intro e;subst e;exact h rfl
theorem eqB_yes {α:Type} [DecidableEq α] {xs ys:List α} (h1:xs.length=ys.length) (h:xs.take xs.length=ys.take xs.length):eqB xs ys=true:=by
 rw [List.take_length] at h;rw [h1,List.take_length] at h;simp [eqB,h]
theorem take_step {α:Type} {xs ys:List α} {k:Nat} (h1:k<xs.length) (h2:k<ys.length) (h:xs.take k=ys.take k) (he:xs[k]=ys[k]):xs.take (k+1)=ys.take (k+1):=by
 rw [ZE xs k h1,ZE ys k h2,h,he]
theorem half_ne {p q:Half} (h:p≠q):(p.a == q.a)=false∨(p.a=q.a/\(p.b == q.b)=false)∨(p.a=q.a/\p.b=q.b/\(p.c == q.c)=false):=by
 obtain ⟨a,b,c⟩:=p;obtain ⟨a',b',c'⟩:=q;by_cases h1:a=a'
 ·by_cases h2:b=b'
  ·by_cases h3:c=c'
   ·subst h1 h2 h3;exact absurd rfl h
   ·exact .inr (.inr ⟨h1,h2,by simpa using h3⟩)
  ·exact .inr (.inl ⟨h1,by simpa using h2⟩)
 ·exact .inl (by simpa using h1)
theorem Sl.drawn {α:Type} {sz:Nat} {enc:α->List Value} {w w':World} {A:Option Addr} {xs:List α} (h:Sl sz enc w A xs) (hd:Drawn w w'):Sl sz enc w' A xs:=by
 obtain ⟨n,rfl⟩:=hd;exact h.drewN n
theorem eqHalves_q (A B:Option Addr) (xs ys:List Half) (c d:Nat) (w:World) (hx:xs.length<=1048576) (_:ys.length<=1048576) (ha:Sl 3 Xg w A xs) (hb:Sl 3 Xg w B ys) :
 Calls Tryz.prog 115 #[.slice A xs.length c,.slice B ys.length d] w λ e w'=>e=.returned (.bool (eqB xs ys))/\∃ n,w'=w.drewN n:=by
 by_cases hl:xs.length=ys.length
 ·have hfin:=λ h=>Lib.hid (eqB_yes (xs:=xs) (ys:=ys) hl h);have hno:=λ k h1 h2 h=>Lib.hid (@eqB_no Half _ xs ys k h1 h2 h);have HL:=Lib.hid hl;have i0:((xs.length:Int) != (ys.length:Int))=false:=by simp [hl]
  clear hl;have hfin2:=Lib.hid hfin;have hno2:=Lib.hid hno;clear hfin hno;go_enter Tryz.func115,Tryz.ntmps115
  go_wp2
  go_loopw [5,13] (λ x i wr=>∃ k:Nat,k<=xs.length/\i=.int .i64 k/\Hid (xs.take k=ys.take k)/\Drawn w wr) (λ _ i _=>xs.length-(intOf i).toNat)
  case atStart=>exact ⟨0,Nat.zero_le _,rfl,by simp [Hid],Drawn.refl _⟩
  case round =>
   obtain ⟨k,hk,rfl,htk,hd⟩:=hrel;by_cases hlt:k<xs.length
   ·have hlt2:k<ys.length:=by have:=HL.out;omega
    obtain ⟨b,off,rfl,hblt,hc⟩:=(ha.drawn hd).at_ hlt;obtain ⟨b',off',rfl,hblt',hc'⟩:=(hb.drawn hd).at_ hlt2;have g0:=hc 0 _ rfl;have g1:=hc 1 _ rfl;have g2:=hc 2 _ rfl;have g3:=hc' 0 _ rfl;have g4:=hc' 1 _ rfl;have g5:=hc' 2 _ rfl;clear hc hc';simp only [Nat.add_zero] at g0 g3;have i1:(0:Int)<=(k:Int):=by omega
    have i2:(k:Int)<(xs.length:Int):=by omega
    have i3:(k:Int)<(ys.length:Int):=by omega
    by_cases he:xs[k]=ys[k]
    ·have hst:=Lib.hid (take_step hlt hlt2 htk.out he);rw [<- he] at g3 g4 g5;generalize xs[k]=p at *;clear he htk;go_wp2
     go_quiet (fail)
     go_wp2
     go_roundw
     case rel=>exact ⟨k+1,by omega,by go_num,hst,Drawn.drewN hd _⟩
     case measure=>simp [intOf];omega
    ·have hst:=hno2.out k hlt hlt2 he;have q:=half_ne he;generalize xs[k]=p at *;generalize ys[k]=p' at *;clear he htk;obtain ⟨a1,b1,c1⟩:=p;obtain ⟨a2,b2,c2⟩:=p';simp only at q g0 g1 g2 g3 g4 g5;rcases q with q|⟨rfl,q⟩|⟨rfl,rfl,q⟩
     all_goals
      go_wp2
      go_quiet (fail)
      go_wp2
      refine bodyPost_ret (v:=.bool false) (by simp [results,Tryz.results115,go_sem]) rfl ⟨by rw [hst.out], ?_⟩;exact (Drawn.drewN hd _).out
   ·obtain rfl:k=xs.length:=by omega
    have hst:=hfin2.out htk.out;clear htk;go_wp2
    go_ret
    exact ⟨Xo hst.out.symm,hd.out⟩
 ·have hst:=Lib.hid (eqB_len hl);have i0:((xs.length:Int) != (ys.length:Int))=true:=by simp;omega
  go_enter Tryz.func115,Tryz.ntmps115
  go_wp2
  go_ret
  exact ⟨Xo hst.out.symm,0,rfl⟩
theorem iSameRegion_c (p q:List Half) (a b:Ks) (w:World) (hp:p.length<=1048576) (hq:q.length<=1048576) (ha:Sl 3 Xg w a.A p) (hb:Sl 3 Xg w b.A q) :
 Calls Tryz.prog 32 #[Zt p a,Zt q b] w λ e w'=>e=.returned (.bool (eqB p q))/\Below w.heap.size w w':=by
 go_enter Tryz.func32,Tryz.ntmps32
 go_wp2_with (fail)
 refine (eqHalves_q a.A b.A p q _ _ _ hp hq (Sl.below ha (by exact XF)) (Sl.below hb (by exact XF))).mono ?_;rintro e w' ⟨rfl,n,rfl⟩;go_wp2
 go_ret
 refine ⟨rfl, ?_⟩;exact XF
theorem sSameRegion_c (p q:List Half) (a b:Ks) (w:World) (hp:p.length<=1048576) (_:q.length<=1048576) (ha:Sl 3 Xg w a.A p) (hb:Sl 3 Xg w b.A q) :
 Calls Tryz.prog 219 #[Zt p a,Zt q b] w λ e w'=>e=.returned (.bool (eqB p q))/\Below w.heap.size w w':=by
 obtain ⟨A,ca⟩:=a;obtain ⟨B,cb⟩:=b;by_cases hl:p.length=q.length
 ·have hfin:=Lib.hid (λ h=>Lib.hid (eqB_yes (xs:=p) (ys:=q) hl h));have hno:=Lib.hid (λ k h1 h2 h=>Lib.hid (@eqB_no Half _ p q k h1 h2 h));have HL:=Lib.hid hl;have i0:((p.length:Int) != (q.length:Int))=false:=by simp [hl]
  clear hl;go_enter Tryz.func219,Tryz.ntmps219
  go_wp2
  go_loopw [5,6,17] (λ _ _ i wr=>∃ k:Nat,k<=p.length/\i=.int .i64 k/\Hid (p.take k=q.take k)/\Below ((w.alloc (.cells #[.slice A p.length ca] 26)).alloc (.cells #[.slice B q.length cb] 26)).heap.size ((w.alloc (.cells #[.slice A p.length ca] 26)).alloc (.cells #[.slice B q.length cb] 26)) wr) (λ _ _ i _=>p.length-(intOf i).toNat)
  case atStart=>exact ⟨0,Nat.zero_le _,rfl,by simp [Hid],Below.refl _ _⟩
  case round =>
   obtain ⟨k,hk,rfl,htk,hbw⟩:=hrel;have r0:=XI hbw;have l0:w.heap.size<wr.heap.size:=XT hbw;have l1:w.heap.size+1<wr.heap.size:=XT hbw;by_cases hlt:k<p.length
   ·have hlt2:k<q.length:=by have:=HL.out;omega
    obtain ⟨b,off,rfl,hblt,hc⟩:=(Sl.below ha (by exact XF:Below w.heap.size w wr)).at_ hlt;obtain ⟨b',off',rfl,hblt',hc'⟩:=(Sl.below hb (by exact XF:Below w.heap.size w wr)).at_ hlt2;have g0:=hc 0 _ rfl;have g1:=hc 1 _ rfl;have g2:=hc 2 _ rfl;have g3:=hc' 0 _ rfl;have g4:=hc' 1 _ rfl;have g5:=hc' 2 _ rfl;clear hc hc';simp only [Nat.add_zero] at g0 g3;have i1:(0:Int)<=(k:Int):=by omega
    have i2:(k:Int)<(p.length:Int):=by omega
    have i3:(k:Int)<(q.length:Int):=by omega
    by_cases he:p[k]=q[k]
    ·have hst:=Lib.hid (take_step hlt hlt2 htk.out he);rw [<- he] at g3 g4 g5;generalize p[k]=x at *;clear he htk;go_wp2
     go_quiet (fail)
     go_wp2
     go_roundw
     case rel =>
      refine ⟨k+1,by omega,by go_num,hst, ?_⟩;exact XF
     case measure=>simp [intOf];omega
    ·have hst:=hno.out k hlt hlt2 he;have q1:=half_ne he;generalize p[k]=x at *;generalize q[k]=x' at *;clear he htk;obtain ⟨a1,b1,c1⟩:=x;obtain ⟨a2,b2,c2⟩:=x';simp only at q1 g0 g1 g2 g3 g4 g5;rcases q1 with q1|⟨rfl,q1⟩|⟨rfl,rfl,q1⟩
     all_goals
      go_wp2
      go_quiet (fail)
      go_wp2
      refine bodyPost_ret (v:=.bool false) (by simp [results,Tryz.results219,go_sem]) rfl ⟨by rw [hst.out], ?_⟩;exact XF
   ·obtain rfl:k=p.length:=by omega
    have hst:=hfin.out htk.out;clear htk;go_wp2
    go_ret
    refine ⟨Xo hst.out.symm, ?_⟩;exact XF
 ·have hst:=Lib.hid (eqB_len hl);have i0:((p.length:Int) != (q.length:Int))=true:=by simp;omega
  go_enter Tryz.func219,Tryz.ntmps219
  go_wp2
  go_ret
  refine ⟨Xo hst.out.symm, ?_⟩;exact XF
theorem red3 {a b c:Int} (h:0<Xu [a,b,c]):Xu [a.tdiv (Xu [a,b,c]),b.tdiv (Xu [a,b,c]),c.tdiv (Xu [a,b,c])]=1:=by
 have e:=gcd3 a b c;rw [gcd3 (a.tdiv _)];simp only [natAbs_tdiv];generalize Xu [a,b,c]=g at *;have d1:g ∣ a.natAbs:=by rw [e];exact Nat.dvd_trans (Nat.gcd_dvd_left _ _) (Nat.gcd_dvd_left _ _)
 have d2:g ∣ b.natAbs:=by rw [e];exact Nat.dvd_trans (Nat.gcd_dvd_left _ _) (Nat.gcd_dvd_right _ _)
 have d3:g ∣ c.natAbs:=by rw [e];exact Nat.gcd_dvd_right _ _
 rw [Nat.gcd_div d1 d2,Nat.gcd_div (Nat.dvd_gcd d1 d2) d3,<- e];exact Nat.div_self h
theorem mulB {a b A B:Int} (hA : -A<=a/\a<=A) (hB : -B<=b/\b<=B) : -(A*B)<=a*b/\a*b<=A*B:=by
 have h1:0<=(A-a)*(B-b):=Int.mul_nonneg (by omega) (by omega);have h2:0<=(A+a)*(B+b):=Int.mul_nonneg (by omega) (by omega);have h3:0<=(A-a)*(B+b):=Int.mul_nonneg (by omega) (by omega);have h4:0<=(A+a)*(B-b):=Int.mul_nonneg (by omega) (by omega);rw [Int.sub_mul,Int.mul_sub,Int.mul_sub] at h1;rw [Int.add_mul,Int.mul_add,Int.mul_add] at h2;rw [Int.sub_mul,Int.mul_add,Int.mul_add] at h3;rw [Int.add_mul,Int.mul_sub,Int.mul_sub] at h4;omega
theorem sgn_le {x:Int}:sgn x<=0 ↔ x<=0:=by unfold sgn;split<;>(try split)<;>omega
def Yx:XJ:=⟨0,0,0⟩
def JB (xs:List XJ) (a b:Int) (k:Nat):Int:=a*(xs.getD k Yx).x+b*(xs.getD k Yx).y
def Jo (xs:List XJ) (k:Nat):Int:=(xs.getD k Yx).d
def Zd (xs:List XJ) (a b:Int):Nat->Int × Int × Int
 | 0=>(-1,0,0)
 | k+1=>if (Zd xs a b k).1<0∨0<J3 (JB xs a b k) (Jo xs k) (Zd xs a b k).2.1 (Zd xs a b k).2.2 then ((k:Int),JB xs a b k,Jo xs k) else Zd xs a b k
theorem far_get {xs:List XJ} {k:Nat} (h:k<xs.length):xs.getD k Yx=xs[k]:=by
 rw [List.getD_eq_getElem?_getD,List.getElem?_eq_getElem h];rfl
theorem farAt_yes {xs:List XJ} {a b:Int} {k:Nat} (h:(Zd xs a b k).1<0∨0<J3 (JB xs a b k) (Jo xs k) (Zd xs a b k).2.1 (Zd xs a b k).2.2):Zd xs a b (k+1)=((k:Int),JB xs a b k,Jo xs k):=by
 rw [Zd,if_pos h]
theorem farAt_no {xs:List XJ} {a b:Int} {k:Nat} (h:¬((Zd xs a b k).1<0∨0<J3 (JB xs a b k) (Jo xs k) (Zd xs a b k).2.1 (Zd xs a b k).2.2)):Zd xs a b (k+1)=Zd xs a b k:=by
 rw [Zd,if_neg h]
end Go.Proofs.YtabfdkpdppemaaaGreat
namespace Go.Proofs.YtabfdkpdppemaaaGreat
open Go.RowKit Go.ChangeShapes Go.WideShapes Go.ChangeAt Go.Deep
theorem own_:ownKnob Tryz.prog.godebug=none:=by kernel_rfl
theorem laidOut_:laidOutB Tryz.prog=true:=by kernel_rfl
section
variable {H:Type} {enc:TypeId × Value->H} {P:Program} {w:World} {base:Nat} {spare:Nat->Bool} {held:Bool}
end
def InB (n:Int):Prop:=0<=n/\n<=255
def bytesC (ns:List Int):=ns.map (Value.int .u8)
def byteC (n:Int):List Value:=[.int .u8 n]
theorem inB_of_wf {n:Int} (h:(Lit.int .u8 n).wf=true):InB n:=by
 simp [Lit.wf,IntKind.min,IntKind.max,IntKind.signed,IntKind.bits] at h;exact ⟨by omega,by omega⟩
section
variable {H:Type} {enc:TypeId × Value->H} {P:Program} {w:World} {base:Nat} {spare:Nat->Bool} {held:Bool}
theorem open_slice_rowsB {fuel k:Nat} {t e:TypeId} {cs:List Value} {x:DataW H × List MemPlace} (ht:P.underlying t=some (.slice e)) (hk:P.cellsOf e=k)
 (hel:∀ n cs' x',DataW.trod enc P w base spare held n e cs'=some x'->∃ ns:List Int,ns.length=k/\(∀ n∈ns,InB n)/\cs'=bytesC ns)
 (hpos:0<k) (h:DataW.trod enc P w base spare held fuel t cs=some x) :
 ∃ A n cap,cs=[.slice A n cap]/\n<=9223372036854775807/\∃ rows:List (List Int),rows.length=n/\(∀ r∈rows,r.length=k/\∀ n∈r,InB n)/\Sl k bytesC w A rows:=by
 rcases open_slice ht h with ⟨hcs,_⟩|⟨a,len,cap,m,n,D,Pl,hcs,hb,hl,hm,hmm,hx,hi⟩
 ·exact ⟨_,_,_,hcs,by omega,[],rfl,by simp,λ h=>by simp at h⟩
 ·refine ⟨_,_,_,hcs,by unfold maxLen at hm;omega, ?_⟩;have hlm:len<=m:=by rw [hmm];split<;>omega
  have each:∀ i,i<len->∃ ns:List Int,ns.length=k/\(∀ n∈ns,InB n)/\w.cells? base (a.add (i*k)) k=some (bytesC ns):=by
   intro i hil;obtain ⟨cs',h1,h2⟩:=hi i (by omega);obtain ⟨ns,h3,h4,h5⟩:=hel _ _ _ h2;rw [hk] at h1;exact ⟨ns,h3,h4,by rw [h1,h5]⟩
  obtain ⟨f,hf⟩:=choose_lt each;refine ⟨(List.range len).map f,by simp, ?_, ?_⟩
  ·intro r hr;simp only [List.mem_map,List.mem_range] at hr;obtain ⟨i,hil,rfl⟩:=hr;exact ⟨(hf i hil).1,(hf i hil).2.1⟩
  ·intro h0;simp at h0;obtain ⟨b,off,spot⟩:=a;have hspot:spot=none:=by
    obtain ⟨h3,h4,h5⟩:=hf 0 h0;obtain ⟨_,h6,h7⟩:=World.cells?_some h5;have h8:=h7 0 hpos;rw [List.getElem?_eq_getElem (by omega)] at h8;have:=World.cell?_spot h8;simpa [Addr.add] using this
   subst hspot;have hadd:∀ m:Nat,(⟨b,off,none⟩:Addr).add m=⟨b,off+m,none⟩:=by
    intro m;unfold Addr.add;split
    ·subst_vars;rfl
    ·rfl
   have hcell:∀ i,i<len->∀ j u,(bytesC (f i))[j]? = some u->w.cell? ⟨b,off+i*k+j,none⟩=some u:=by
    intro i hil j u hu;obtain ⟨h3,h4,h5⟩:=hf i hil;obtain ⟨_,h6,h7⟩:=World.cells?_some h5;have hj:j<k:=by
     rcases Nat.lt_or_ge j k with h|h
     ·exact h
     ·rw [List.getElem?_eq_none (by omega)] at hu;cases hu
    have h8:=h7 j hj;rw [hu,add_add,hadd] at h8;rw [<- h8];congr 2;omega
   refine ⟨b,off,rfl, ?_, ?_⟩
   ·obtain ⟨h3,h4,h5⟩:=hf 0 h0;have hl3:0<(bytesC (f 0)).length:=by simp [bytesC];omega
    have:=hcell 0 h0 0 _ (List.getElem?_eq_getElem hl3);exact block_lt_of_cell this
   ·intro i hil j u hu;simp only [List.length_map,List.length_range] at hil;simp only [List.getElem_map,List.getElem_range] at hu;exact hcell i hil j u hu
theorem open_byteS {fuel:Nat} {t e:TypeId} {cs:List Value} {x:DataW H × List MemPlace} (ht:P.underlying t=some (.slice e)) (he:P.underlying e=some (.int .u8)) (hk:P.cellsOf e=1)
 (h:DataW.trod enc P w base spare held fuel t cs=some x) :
 ∃ A cap,∃ xs:List Int,cs=[.slice A xs.length cap]/\xs.length<=9223372036854775807/\(∀ n∈xs,InB n)/\Sl 1 byteC w A xs:=by
 obtain ⟨A,n,cap,hcs,hn,rows,hl,hr,hs⟩:=open_slice_rowsB (k:=1) ht hk (λ n cs' x' h'=>by
  obtain ⟨m,h1,_,h2⟩:=DataW.trod_int he h';exact ⟨[m],rfl,by simpa using inB_of_wf h2,by simp [h1,bytesC]⟩) (by omega) h
 refine ⟨A,cap,rows.map (λ r=>r.getD 0 0),by simp [hcs,hl],by simp;omega, ?_,hs.map _ ?_⟩
 ·intro x hx;simp only [List.mem_map] at hx;obtain ⟨r,hr',rfl⟩:=hx;match r,hr r hr' with
  | [a],h=>simpa using h.2 a (by simp)
 ·intro r hr';match r,hr r hr' with
  | [a],h=>rfl
end
theorem openByteSV {H:Type} {enc:TypeId × Value->H} {W:World} {base b0:Nat} {spare:Nat->Bool} {held:Bool} {r:Reach} {v:Value} {d:DataW H} {p:List MemPlace}
 (hv:Value.okWide Tryz.prog W r b0 22 v) (h:DataW.Trod enc Tryz.prog W base spare held 22 v d p) :
 ∃ A cap,∃ xs:List Int,v=.slice A xs.length cap/\xs.length<=9223372036854775807/\(∀ y∈xs,InB y)/\Sl 1 byteC W A xs:=by
 obtain ⟨a0,len,cap,rfl⟩:=okWide_slice Tryz.underlying22 hv;obtain ⟨fuel,hf⟩:=h;obtain ⟨A,cap',xs,e1,h1,h2,h3⟩:=open_byteS Tryz.underlying22 Tryz.underlying5 (by kernel_rfl) hf;simp only [Value.cells,List.cons.injEq,and_true] at e1;exact ⟨A,cap',xs,e1,h1,h2,h3⟩
end Go.Proofs.YtabfdkpdppemaaaGreat
