/-
 The functions on tables: what they return.
 Conditions: the slice of cells holds at most 2^20 ints.
-/
import Derived.Test.YtbekjpkcicjcgaaGreatGrC
import Derived.StillTailTactics
set_option maxHeartbeats 2000000
set_option maxRecDepth 100000
namespace Go.Proofs.YtbekjpkcicjcgaaGreat
open Go.RowKit
structure Tab where
 x0:Int
 y0:Int
 step:Int
 nx:Int
 ny:Int
 cells:List Int
def Tab.In (t:Tab):Prop:=Yy t.x0/\Yy t.y0/\Yy t.step/\Yy t.nx/\Yy t.ny
theorem XI.low {α:Type} {T sz:Nat} {enc:α->List Value} {w:World} {base:Nat} {v:Value} {xs:List α} (h:XI T sz enc w base v xs) {p:Addr} (hp:p.block<base) (u:Value):XI T sz enc (w.setCell p u) base v xs:=by
 obtain ⟨A,cap,rfl,ho⟩:=h;exact ⟨A,cap,rfl,ownsRow_setCell_below ho hp u⟩
theorem szIntS_c (A:Option Addr) (n cap:Nat) (left:Int) (w:World) (hn:n<=9223372036854775807) (h0:0<=left) (h1:left<=1048576) :
 Calls Tryz.prog 69 #[.slice A n cap,.int .i64 left] w λ e w'=>e=.returned (.int .i64 (if left-n<0 then -1 else left-n))/\w=w':=by
 by_cases h:left-n<0
 all_goals
  go_enter Tryz.func69,Tryz.ntmps69
  go_wp2
  go_ret
  exact ⟨YB Sz,rfl⟩
theorem toIntS_c (A:Option Addr) (xs:List Int) (cap:Nat) (w:World) (hn:xs.length<=1048576) (hs:Sl 1 Zm w A xs) :
 Calls Tryz.prog 74 #[.slice A xs.length cap] w λ e w'=>∃ v,e=.returned v/\XI 3 1 Zm w' w.heap.size v xs/\Below w.heap.size w w':=by
 obtain ⟨i0,hi0,hz0,hz1,hz2⟩:=info_parts (show (Tryz.prog.info? 3).map (λ i=>(i.zero,i.size,i.bytes))=some (some (.int .i64 0),1,8) by kernel_rfl);have hmk:∀ W:World,(Instr.makeSlice 23 (.int .i64 (xs.length:Int)) (.int .i64 (xs.length:Int))).run Tryz.prog W=.ok (.slice (some ⟨W.heap.size,0,none⟩) xs.length xs.length) (W.alloc (.cells (madeCells #[.int .i64 0] xs.length) 3)):=by
  intro W;have h:=run_make (P:=Tryz.prog) W 23 3 i0 _ Tryz.underlying23 hi0 hz0 .i64 .i64 (xs.length:Int) (xs.length:Int) Oz Oz (by rw [hz2];omega) Oz;rw [hz1] at h;simpa [Value.cells] using h
 go_enter Tryz.func74,Tryz.ntmps74
 go_wp2
 go_loopw [4] (λ i wr=>∃ k:Nat,k<=xs.length/\i=.int .i64 k/\ZG 3 1 Zm wr w.heap.size (xs.length*1) xs k/\Below w.heap.size w wr) (λ i _=>xs.length-(intOf i).toNat)
 case atStart=>exact ⟨0,Nat.zero_le _,rfl,ZG.start (by simp [madeCells]) XE,Xc bR _⟩
 case round =>
  obtain ⟨k,hk,rfl,hfill,hbw⟩:=hrel;by_cases hlt:k<xs.length
  ·obtain ⟨b,off,rfl,hblt,hc⟩:=(hs.below hbw).at_ hlt;have g0:=hc 0 _ rfl;clear hc;simp only [Nat.mul_one,Nat.add_zero] at g0;obtain ⟨u0,c0⟩:=hfill.cell (m:=k) (by omega);have f0:=hfill.frozen k;have hst:=hfill.stored Zg hlt (vs:=Zm xs[k]) rfl;have hst2:=below_setCells (Nat.le_refl w.heap.size) (Zm xs[k]) (k*1) _ hbw;rw [Nat.mul_one] at hst hst2;generalize xs[k]=x at *;go_wp2
   exact ⟨⟨k+1,by omega,by go_num,hst,hst2⟩,by simp [intOf];omega⟩
  ·obtain rfl:k=xs.length:=Oz
   go_wp2
   go_ret
   exact ⟨_,rfl,hfill.new Zg XE (by unfold maxLen;omega),hbw⟩
theorem eqIntS_t (A B:Option Addr) (xs:List Int) (c d:Nat) (w:World) (hn:xs.length<=1048576) (ha:Sl 1 Zm w A xs) (hb:Sl 1 Zm w B xs) :
 Calls Tryz.prog 78 #[.slice A xs.length c,.slice B xs.length d] w λ e w'=>e=.returned (.bool true)/\Below w.heap.size w w':=by
 go_enter Tryz.func78,Tryz.ntmps78
 go_wp2
 go_loopw [5] (λ i wr=>∃ k:Nat,k<=xs.length/\i=.int .i64 k/\Below w.heap.size w wr) (λ i _=>xs.length-(intOf i).toNat)
 case atStart=>exact ⟨0,Nat.zero_le _,rfl,Below.refl _ _⟩
 case round =>
  obtain ⟨k,hk,rfl,hbw⟩:=hrel;by_cases hlt:k<xs.length
  ·obtain ⟨b,off,rfl,hblt,hc⟩:=(ha.below hbw).at_ hlt;obtain ⟨b',off',rfl,hblt',hc'⟩:=(hb.below hbw).at_ hlt;have g0:=hc 0 _ rfl;have g1:=hc' 0 _ rfl;clear hc hc';simp only [Nat.mul_one,Nat.add_zero] at g0 g1;generalize xs[k]=x at *;have i1:(0:Int)<=(k:Int):=Oz
   have i2:(k:Int)<(xs.length:Int):=Oz
   go_wp2
   go_quiet (fail)
   go_wp2
   exact ⟨⟨k+1,by omega,by go_num,YQ hbw _⟩,by simp [intOf];omega⟩
  ·go_wp2
   go_ret
   exact ⟨rfl,hbw⟩
structure XK (w:World) (base:Nat) (x:List Half) (a:Zi):Prop where
 halves:XI 136 3 Xd w base (.slice a.A (List.length x) a.c) x
theorem XK.sl {w:World} {base:Nat} {x:List Half} {a:Zi} (h:XK w base x a):Y9 w x a:=⟨h.halves.out Xx⟩
theorem XK.below {w w':World} {base B:Nat} {x:List Half} {a:Zi} (h:XK w base x a) (hb:Below B w w') (hB:w.heap.size<=B):XK w' base x a:=⟨h.halves.below hb hB⟩
theorem XK.mono {w:World} {base base':Nat} {x:List Half} {a:Zi} (h:XK w base x a) (hb:base'<=base):XK w base' x a:=⟨h.halves.mono hb⟩
theorem XK.low {w:World} {base:Nat} {x:List Half} {a:Zi} (h:XK w base x a) {p:Addr} (hp:p.block<base) (u:Value):XK (w.setCell p u) base x a:=⟨h.halves.low hp u⟩
theorem XK.blk {w:World} {base:Nat} {x:List Half} {a:Zi} (h:XK w base x a):Blk base w.heap.size a:=h.halves.blk
structure Yr (w:World) (base:Nat) (x:XU) (a:Yn):Prop where
 map:XI 3 1 Zm w base (.slice a.map.A (List.length x.map) a.map.c) x.map
 noise:XK w base x.noise a.noise
 limits:XK w base x.limits a.limits
 apart:List.Pairwise Kd [a.map,a.noise,a.limits]
theorem Yr.sl {w:World} {base:Nat} {x:XU} {a:Yn} (h:Yr w base x a):Ym w x a:=⟨h.map.out Zg,h.noise.sl,h.limits.sl⟩
theorem Yr.below {w w':World} {base B:Nat} {x:XU} {a:Yn} (h:Yr w base x a) (hb:Below B w w') (hB:w.heap.size<=B):Yr w' base x a:=⟨h.map.below hb hB,h.noise.below hb hB,h.limits.below hb hB,h.apart⟩
theorem Yr.mono {w:World} {base base':Nat} {x:XU} {a:Yn} (h:Yr w base x a) (hb:base'<=base):Yr w base' x a:=⟨h.map.mono hb,h.noise.mono hb,h.limits.mono hb,h.apart⟩
theorem Yr.low {w:World} {base:Nat} {x:XU} {a:Yn} (h:Yr w base x a) {p:Addr} (hp:p.block<base) (u:Value):Yr (w.setCell p u) base x a:=⟨h.map.low hp u,h.noise.low hp u,h.limits.low hp u,h.apart⟩
theorem Yr.blk {w:World} {base:Nat} {x:XU} {a:Yn} (h:Yr w base x a):Blk base w.heap.size a.map/\Blk base w.heap.size a.noise/\Blk base w.heap.size a.limits:=⟨h.map.blk,h.noise.blk,h.limits.blk⟩
structure XA (w:World) (base:Nat) (x:ZE) (a:ZF):Prop where
 room:Yr w base x.room a.room
 reg:XK w base x.reg a.reg
 log:XI 3 1 Zm w base (.slice a.log.A (List.length x.log) a.log.c) x.log
 apart:List.Pairwise Kd [a.room.map,a.room.noise,a.room.limits,a.reg,a.log]
theorem XA.sl {w:World} {base:Nat} {x:ZE} {a:ZF} (h:XA w base x a):K6 w x a:=⟨h.room.sl,h.reg.sl,h.log.out Zg⟩
theorem XA.below {w w':World} {base B:Nat} {x:ZE} {a:ZF} (h:XA w base x a) (hb:Below B w w') (hB:w.heap.size<=B):XA w' base x a:=⟨h.room.below hb hB,h.reg.below hb hB,h.log.below hb hB,h.apart⟩
theorem XA.mono {w:World} {base base':Nat} {x:ZE} {a:ZF} (h:XA w base x a) (hb:base'<=base):XA w base' x a:=⟨h.room.mono hb,h.reg.mono hb,h.log.mono hb,h.apart⟩
theorem XA.low {w:World} {base:Nat} {x:ZE} {a:ZF} (h:XA w base x a) {p:Addr} (hp:p.block<base) (u:Value):XA (w.setCell p u) base x a:=⟨h.room.low hp u,h.reg.low hp u,h.log.low hp u,h.apart⟩
theorem XA.blk {w:World} {base:Nat} {x:ZE} {a:ZF} (h:XA w base x a):Blk base w.heap.size a.room.map/\Blk base w.heap.size a.room.noise/\Blk base w.heap.size a.room.limits/\Blk base w.heap.size a.reg/\Blk base w.heap.size a.log:=⟨h.room.blk.1,h.room.blk.2.1,h.room.blk.2.2,h.reg.blk,h.log.blk⟩
structure Y3 (w:World) (base:Nat) (x:Track) (a:JS):Prop where
 spots:XI 30 3 spotC w base (.slice a.spots.A (List.length x.spots) a.spots.c) x.spots
 inputs:XI 46 2 ratioC w base (.slice a.inputs.A (List.length x.inputs) a.inputs.c) x.inputs
 apart:List.Pairwise Kd [a.spots,a.inputs]
theorem Y3.sl {w:World} {base:Nat} {x:Track} {a:JS} (h:Y3 w base x a):TrackSl w x a:=⟨h.spots.out Jg,h.inputs.out ratioC_len⟩
theorem Y3.below {w w':World} {base B:Nat} {x:Track} {a:JS} (h:Y3 w base x a) (hb:Below B w w') (hB:w.heap.size<=B):Y3 w' base x a:=⟨h.spots.below hb hB,h.inputs.below hb hB,h.apart⟩
theorem Y3.mono {w:World} {base base':Nat} {x:Track} {a:JS} (h:Y3 w base x a) (hb:base'<=base):Y3 w base' x a:=⟨h.spots.mono hb,h.inputs.mono hb,h.apart⟩
theorem Y3.low {w:World} {base:Nat} {x:Track} {a:JS} (h:Y3 w base x a) {p:Addr} (hp:p.block<base) (u:Value):Y3 (w.setCell p u) base x a:=⟨h.spots.low hp u,h.inputs.low hp u,h.apart⟩
theorem Y3.blk {w:World} {base:Nat} {x:Track} {a:JS} (h:Y3 w base x a):Blk base w.heap.size a.spots/\Blk base w.heap.size a.inputs:=⟨h.spots.blk,h.inputs.blk⟩
theorem toRatio_c (x:Yk) (w:World) :
 Calls Tryz.prog 26 #[Xv x] w λ e w'=>e=.returned (Xv x)/\Below w.heap.size w w':=by
 go_enter Tryz.func26,Tryz.ntmps26
 go_wp2
 refine bodyPost_ret (v:=.agg #[.int .i64 x.n,.int .i64 x.d]) (by simp [results,Tryz.results26,go_sem]) rfl ⟨rfl, ?_⟩;exact Xl
theorem eqRatio_t (x:Yk) (w:World) :
 Calls Tryz.prog 29 #[Xv x,Xv x] w λ e w'=>e=.returned (.bool true)/\Below w.heap.size w w':=by
 go_enter Tryz.func29,Tryz.ntmps29
 go_wp2
 go_ret
 refine ⟨rfl, ?_⟩;exact Xl
theorem toSpot_c (x:X9) (w:World) :
 Calls Tryz.prog 25 #[YK x] w λ e w'=>e=.returned (YK x)/\Below w.heap.size w w':=by
 go_enter Tryz.func25,Tryz.ntmps25
 go_wp2
 refine bodyPost_ret (v:=.agg #[.int .i64 x.x,.int .i64 x.y,.int .i64 x.d]) (by simp [results,Tryz.results25,go_sem]) rfl ⟨rfl, ?_⟩;exact Xl
theorem toHalf_c (x:Half) (w:World) :
 Calls Tryz.prog 157 #[X3 x] w λ e w'=>e=.returned (X3 x)/\Below w.heap.size w w':=by
 go_enter Tryz.func157,Tryz.ntmps157
 go_wp2
 refine bodyPost_ret (v:=.agg #[.int .i64 x.a,.int .i64 x.b,.int .i64 x.c]) (by simp [results,Tryz.results157,go_sem]) rfl ⟨rfl, ?_⟩;exact Xl
theorem eqHalf_t (x:Half) (w:World) :
 Calls Tryz.prog 158 #[X3 x,X3 x] w λ e w'=>e=.returned (.bool true)/\Below w.heap.size w w':=by
 go_enter Tryz.func158,Tryz.ntmps158
 go_wp2
 go_ret
 refine ⟨rfl, ?_⟩;exact Xl
theorem szHalfS_c (A:Option Addr) (n cap:Nat) (left:Int) (w:World) (hn:n<=9223372036854775807) (h0:0<=left) (h1:left<=1048576) :
 Calls Tryz.prog 117 #[.slice A n cap,.int .i64 left] w λ e w'=>e=.returned (.int .i64 (if left-n<0 then -1 else left-n))/\w=w':=by
 by_cases h:left-n<0
 all_goals
  go_enter Tryz.func117,Tryz.ntmps117
  go_wp2
  go_ret
  exact ⟨YB Sz,rfl⟩
theorem eqHalfS_t (A B:Option Addr) (xs:List Half) (c d:Nat) (w:World) (hn:xs.length<=1048576) (ha:Sl 3 Xd w A xs) (hb:Sl 3 Xd w B xs) :
 Calls Tryz.prog 126 #[.slice A xs.length c,.slice B xs.length d] w λ e w'=>e=.returned (.bool true)/\Below w.heap.size w w':=by
 go_enter Tryz.func126,Tryz.ntmps126
 go_wp2
 go_loopw [5] (λ i wr=>∃ k:Nat,k<=xs.length/\i=.int .i64 k/\Below w.heap.size w wr) (λ i _=>xs.length-(intOf i).toNat)
 case atStart=>exact ⟨0,Nat.zero_le _,rfl,Below.refl _ _⟩
 case round =>
  obtain ⟨k,hk,rfl,hbw⟩:=hrel;by_cases hlt:k<xs.length
  ·obtain ⟨b,off,rfl,hblt,hc⟩:=(ha.below hbw).at_ hlt;obtain ⟨b',off',rfl,hblt',hc'⟩:=(hb.below hbw).at_ hlt;have g0:=hc 0 _ rfl;have g1:=hc 1 _ rfl;have g2:=hc 2 _ rfl;have g0':=hc' 0 _ rfl;have g1':=hc' 1 _ rfl;have g2':=hc' 2 _ rfl;clear hc hc';simp only [Nat.add_zero] at g0 g0';generalize xs[k]=x at *;go_wp2
   go_still_tail 8,(by kernel_rfl)
   change wpList _ _ _ _ _ wr.drew
   generalize hwr:wr.drew=w2;have hb2:Below w.heap.size w w2:=by rw [<- hwr];exact hbw.drew
   clear hwr;go_wp2_with (fail)
   refine (eqHalf_t x _).mono ?_;rintro e w1 ⟨rfl,hb1⟩;go_wp2
   go_roundw
   case rel=>exact ⟨k+1,by omega,by go_num,hb2.trans (hb1.mono hb2.size)⟩
   case measure=>simp [intOf];omega
  ·go_wp2
   go_ret
   exact ⟨rfl,hbw⟩
theorem toHalfS_c (A:Option Addr) (xs:List Half) (cap:Nat) (w:World) (hn:xs.length<=1048576) (hs:Sl 3 Xd w A xs) :
 Calls Tryz.prog 125 #[.slice A xs.length cap] w λ e w'=>∃ v,e=.returned v/\XI 136 3 Xd w' w.heap.size v xs/\Below w.heap.size w w':=by
 obtain ⟨i0,hi0,hz0,hz1,hz2⟩:=info_parts (show (Tryz.prog.info? 136).map (λ i=>(i.zero,i.size,i.bytes))=some (some (.agg #[.int .i64 0,.int .i64 0,.int .i64 0]),3,24) by kernel_rfl);have hmk:∀ W:World,(Instr.makeSlice 24 (.int .i64 (xs.length:Int)) (.int .i64 (xs.length:Int))).run Tryz.prog W=.ok (.slice (some ⟨W.heap.size,0,none⟩) xs.length xs.length) (W.alloc (.cells (madeCells #[.int .i64 0,.int .i64 0,.int .i64 0] (xs.length*3)) 136)):=by
  intro W;have h:=run_make (P:=Tryz.prog) W 24 136 i0 _ Tryz.underlying24 hi0 hz0 .i64 .i64 (xs.length:Int) (xs.length:Int) Oz Oz (by rw [hz2];omega) Oz;rw [hz1] at h;simpa [Value.cells] using h
 go_enter Tryz.func125,Tryz.ntmps125
 go_wp2
 go_loopw [4] (λ i wr=>∃ k:Nat,k<=xs.length/\i=.int .i64 k/\ZG 136 3 Xd wr w.heap.size (xs.length*3) xs k/\Below w.heap.size w wr) (λ i _=>xs.length-(intOf i).toNat)
 case atStart=>exact ⟨0,Nat.zero_le _,rfl,ZG.start (by simp [madeCells]) XE,Xc bR _⟩
 case round =>
  obtain ⟨k,hk,rfl,hfill,hbw⟩:=hrel;by_cases hlt:k<xs.length
  ·obtain ⟨b,off,rfl,hblt,hc⟩:=(hs.below hbw).at_ hlt;have g0:=hc 0 _ rfl;have g1:=hc 1 _ rfl;have g2:=hc 2 _ rfl;clear hc;simp only [Nat.add_zero] at g0;have hx:xs[k]=xs[k]:=rfl;generalize hxx:xs[k]=x at *;have HX:=Lib.hid hxx;clear hxx hx;go_wp2_with (fail)
   refine (toHalf_c x _).mono ?_;rintro e w1 ⟨rfl,hb1⟩;have hfill1:=hfill.below hb1;have hbw1:=Xe hbw hb1;have hm:=Nat.mul_le_mul_right 3 hlt;obtain ⟨u0,c0⟩:=hfill1.cell (m:=k*3) (by omega);have f0:=hfill1.frozen (k*3);obtain ⟨u1,c1⟩:=hfill1.cell (m:=k*3+1) (by omega);have f1:=hfill1.frozen (k*3+1);obtain ⟨u2,c2⟩:=hfill1.cell (m:=k*3+2) (by omega);have f2:=hfill1.frozen (k*3+2);clear hm;have hst:=hfill1.stored Xx hlt (vs:=Xd x) (by rw [HX.out]);have hst2:=below_setCells (Nat.le_refl w.heap.size) (Xd x) (k*3) _ hbw1;go_wp2
   exact ⟨⟨k+1,by omega,by go_num,hst,hst2⟩,by simp [intOf];omega⟩
  ·obtain rfl:k=xs.length:=Oz
   go_wp2
   go_ret
   exact ⟨_,rfl,hfill.new Xx XE (by unfold maxLen;omega),hbw⟩
theorem KN (x:List Half) (a:Zi) (left:Int) (w:World) (hn:List.length x<=9223372036854775807) (h0:0<=left) (h1:left<=1048576) :
 Calls Tryz.prog 68 #[Yi x a,.int .i64 left] w λ e w'=>e=.returned (.int .i64 (if left-XB x<0 then -1 else left-XB x))/\Below w.heap.size w w':=by
 have hn0:=hn;have hlen:Hid (((XB x:Nat):Int)=((List.length x:Nat):Int)):=by show _=_;simp only [XB];(try omega)
 have p0:(0:Int)<=((List.length x:Nat):Int):=Oz
 by_cases c0:left-((List.length x:Nat):Int)<0
 ·have hfin:(if left-((XB x:Nat):Int)<0 then (-1:Int) else left-((XB x:Nat):Int)) = -1:=by have:=hlen.out;rw [if_pos Oz]
  rw [hfin];clear hfin;go_enter Tryz.func68,Tryz.ntmps68
  go_wp2_with (fail)
  refine (szHalfS_c a.A (List.length x) a.c (left) _ hn0 (by omega) (by omega)).mono ?_;rw [if_pos (by omega)];rintro e w' ⟨rfl,rfl⟩;go_wp2
  go_ret
  refine ⟨rfl, ?_⟩;exact Xl
 ·have hfin:(if left-((XB x:Nat):Int)<0 then (-1:Int) else left-((XB x:Nat):Int))=left-((List.length x:Nat):Int):=by have:=hlen.out;(rw [if_neg Oz];omega)
  rw [hfin];clear hfin;go_enter Tryz.func68,Tryz.ntmps68
  go_wp2_with (fail)
  refine (szHalfS_c a.A (List.length x) a.c (left) _ hn0 (by omega) (by omega)).mono ?_;rw [if_neg (by omega)];rintro e w' ⟨rfl,rfl⟩;go_wp2
  go_ret
  refine ⟨rfl, ?_⟩;exact Xl
theorem eqRegion_t (x:List Half) (a b:Zi) (w:World) (hn:XB x<=1048576) (ha:Y9 w x a) (hb:Y9 w x b) :
 Calls Tryz.prog 77 #[Yi x a,Yi x b] w λ e w'=>e=.returned (.bool true)/\Below w.heap.size w w':=by
 simp only [XB] at hn;go_enter Tryz.func77,Tryz.ntmps77
 go_wp2_with (fail)
 refine (eqHalfS_t a.A b.A x _ _ _ (by omega) (Sl.below ha.halves (by exact Xl)) (Sl.below hb.halves (by exact Xl))).mono ?_;rintro e w0 ⟨rfl,hb0⟩;have r0:=Xh hb0;have l0:w.heap.size<w0.heap.size:=Xo hb0;have m0:w.heap.size+1<w0.heap.size:=Xo hb0;go_wp2
 go_ret
 refine ⟨rfl, ?_⟩;exact Xl
theorem toRegion_c (x:List Half) (a:Zi) (w:World) (hn:XB x<=1048576) (hs:Y9 w x a) :
 Calls Tryz.prog 73 #[Yi x a] w λ e w'=>∃ a',e=.returned (Yi x a')/\XK w' w.heap.size x a'/\Below w.heap.size w w':=by
 simp only [XB] at hn;go_enter Tryz.func73,Tryz.ntmps73
 go_wp2_with (fail)
 refine (toHalfS_c a.A x _ _ (by omega) (Sl.below hs.halves (by exact Xl))).mono ?_;rintro e w0 ⟨v0,rfl,N0,hb0⟩;obtain ⟨A0,k0,rfl,ho0⟩:=N0;have N0:XI 136 3 Xd w0 _ (.slice A0 (List.length x) k0) x:=⟨A0,k0,rfl,ho0⟩;clear ho0;have K0:=N0.blk;replace N0:=N0.mono (base':=w.heap.size+1+1+1) (by first|(simp;done)|(simp;omega)|omega);have r0:=Xh hb0;have f0:=(bcell hb0).2;have l0:w.heap.size<w0.heap.size:=Xo hb0;have m0:w.heap.size+1<w0.heap.size:=Xo hb0;have n0:w.heap.size+1+1<w0.heap.size:=Xo hb0;have H:XV w0 (w.heap.size+1) [.slice none 0 0]:=by
  exact Ys
 obtain ⟨cH_0,fH_0⟩:=H.2 0 _ rfl;go_wp2
 refine bodyPost_ret (v:=Yi x ⟨A0,k0⟩) (by simp [results,Tryz.results73,go_sem,cH_0]) rfl ?_;refine ⟨⟨A0,k0⟩,rfl,⟨?_⟩, ?_⟩
 ·refine XI.mono (base:=w.heap.size+1+1+1) ?_ (by omega);repeat (first|(with_reducible exact N0)|(with_reducible refine XI.low ?_ (by first|(simp;done)|(simp;omega)|omega) _)|(with_reducible refine XI.below ?_ (by assumption) XE))
 ·exact Xl
theorem szRoom_c (x:XU) (a:Yn) (left:Int) (w:World) (hn:List.length x.map<=9223372036854775807/\List.length x.noise<=9223372036854775807/\List.length x.limits<=9223372036854775807) (h0:0<=left) (h1:left<=1048576) :
 Calls Tryz.prog 67 #[Ya x a,.int .i64 left] w λ e w'=>e=.returned (.int .i64 (if left-Xy x<0 then -1 else left-Xy x))/\Below w.heap.size w w':=by
 obtain ⟨hn0,JW,hn2⟩:=hn;have hlen:Hid (((Xy x:Nat):Int)=((List.length x.map:Nat):Int)+((XB x.noise:Nat):Int)+((XB x.limits:Nat):Int)):=by show _=_;simp only [XB,Xy];(try omega)
 have p0:(0:Int)<=((List.length x.map:Nat):Int):=Oz
 have p1:(0:Int)<=((XB x.noise:Nat):Int):=Oz
 have p2:(0:Int)<=((XB x.limits:Nat):Int):=Oz
 by_cases c0:left-((List.length x.map:Nat):Int)<0
 ·have hfin:(if left-((Xy x:Nat):Int)<0 then (-1:Int) else left-((Xy x:Nat):Int)) = -1:=by have:=hlen.out;rw [if_pos Oz]
  rw [hfin];clear hfin;go_enter Tryz.func67,Tryz.ntmps67
  go_wp2_with (fail)
  refine (szIntS_c a.map.A (List.length x.map) a.map.c (left) _ hn0 (by omega) (by omega)).mono ?_;rw [if_pos (by omega)];rintro e w' ⟨rfl,rfl⟩;go_wp2
  go_ret
  refine ⟨rfl, ?_⟩;exact Xl
 ·by_cases c1:left-((List.length x.map:Nat):Int)-((XB x.noise:Nat):Int)<0
  ·have hfin:(if left-((Xy x:Nat):Int)<0 then (-1:Int) else left-((Xy x:Nat):Int)) = -1:=by have:=hlen.out;rw [if_pos Oz]
   rw [hfin];clear hfin;go_enter Tryz.func67,Tryz.ntmps67
   go_wp2_with (fail)
   refine (szIntS_c a.map.A (List.length x.map) a.map.c (left) _ hn0 (by omega) (by omega)).mono ?_;rw [if_neg (by omega)];rintro e w' ⟨rfl,rfl⟩;go_wp2_with (fail)
   refine (KN x.noise a.noise (left-((List.length x.map:Nat):Int)) _ JW (by omega) (by omega)).mono ?_;rw [if_pos (by omega)];rintro e w1 ⟨rfl,hb1⟩;have r1:=Xh hb1;have l1:w.heap.size<w1.heap.size:=Xo hb1;go_wp2
   go_ret
   refine ⟨rfl, ?_⟩;exact Xl
  ·by_cases c2:left-((List.length x.map:Nat):Int)-((XB x.noise:Nat):Int)-((XB x.limits:Nat):Int)<0
   ·have hfin:(if left-((Xy x:Nat):Int)<0 then (-1:Int) else left-((Xy x:Nat):Int)) = -1:=by have:=hlen.out;rw [if_pos Oz]
    rw [hfin];clear hfin;go_enter Tryz.func67,Tryz.ntmps67
    go_wp2_with (fail)
    refine (szIntS_c a.map.A (List.length x.map) a.map.c (left) _ hn0 (by omega) (by omega)).mono ?_;rw [if_neg (by omega)];rintro e w' ⟨rfl,rfl⟩;go_wp2_with (fail)
    refine (KN x.noise a.noise (left-((List.length x.map:Nat):Int)) _ JW (by omega) (by omega)).mono ?_;rw [if_neg (by omega)];rintro e w1 ⟨rfl,hb1⟩;have r1:=Xh hb1;have l1:w.heap.size<w1.heap.size:=Xo hb1;go_wp2_with (fail)
    refine (KN x.limits a.limits (left-((List.length x.map:Nat):Int)-((XB x.noise:Nat):Int)) _ hn2 (by omega) (by omega)).mono ?_;rw [if_pos (by omega)];rintro e w2 ⟨rfl,hb2⟩;have r2:=Xh hb2;have l2:w.heap.size<w2.heap.size:=Xo hb2;go_wp2
    go_ret
    refine ⟨rfl, ?_⟩;exact Xl
   ·have hfin:(if left-((Xy x:Nat):Int)<0 then (-1:Int) else left-((Xy x:Nat):Int))=left-((List.length x.map:Nat):Int)-((XB x.noise:Nat):Int)-((XB x.limits:Nat):Int):=by have:=hlen.out;(rw [if_neg Oz];omega)
    rw [hfin];clear hfin;go_enter Tryz.func67,Tryz.ntmps67
    go_wp2_with (fail)
    refine (szIntS_c a.map.A (List.length x.map) a.map.c (left) _ hn0 (by omega) (by omega)).mono ?_;rw [if_neg (by omega)];rintro e w' ⟨rfl,rfl⟩;go_wp2_with (fail)
    refine (KN x.noise a.noise (left-((List.length x.map:Nat):Int)) _ JW (by omega) (by omega)).mono ?_;rw [if_neg (by omega)];rintro e w1 ⟨rfl,hb1⟩;have r1:=Xh hb1;have l1:w.heap.size<w1.heap.size:=Xo hb1;go_wp2_with (fail)
    refine (KN x.limits a.limits (left-((List.length x.map:Nat):Int)-((XB x.noise:Nat):Int)) _ hn2 (by omega) (by omega)).mono ?_;rw [if_neg (by omega)];rintro e w2 ⟨rfl,hb2⟩;have r2:=Xh hb2;have l2:w.heap.size<w2.heap.size:=Xo hb2;go_wp2
    go_ret
    refine ⟨rfl, ?_⟩;exact Xl
theorem eqRoom_t (x:XU) (a b:Yn) (w:World) (hn:Xy x<=1048576) (ha:Ym w x a) (hb:Ym w x b) :
 Calls Tryz.prog 76 #[Ya x a,Ya x b] w λ e w'=>e=.returned (.bool true)/\Below w.heap.size w w':=by
 simp only [Xy] at hn;go_enter Tryz.func76,Tryz.ntmps76
 go_wp2_with (fail)
 refine (eqIntS_t a.map.A b.map.A x.map _ _ _ (by omega) (Sl.below ha.map (by exact Xl)) (Sl.below hb.map (by exact Xl))).mono ?_;rintro e w0 ⟨rfl,hb0⟩;have r0:=Xh hb0;have l0:w.heap.size<w0.heap.size:=Xo hb0;have m0:w.heap.size+1<w0.heap.size:=Xo hb0;go_wp2_with (fail)
 refine (eqRegion_t x.noise a.noise b.noise _ (by simp only [XB];omega) (Y9.below ha.noise (by exact Xl)) (Y9.below hb.noise (by exact Xl))).mono ?_;rintro e w1 ⟨rfl,hb1⟩;have r1:=Xh hb1;have l1:w.heap.size<w1.heap.size:=Xo hb1;have m1:w.heap.size+1<w1.heap.size:=Xo hb1;go_wp2_with (fail)
 refine (eqRegion_t x.limits a.limits b.limits _ (by simp only [XB];omega) (Y9.below ha.limits (by exact Xl)) (Y9.below hb.limits (by exact Xl))).mono ?_;rintro e w2 ⟨rfl,hb2⟩;have r2:=Xh hb2;have l2:w.heap.size<w2.heap.size:=Xo hb2;have m2:w.heap.size+1<w2.heap.size:=Xo hb2;go_wp2
 go_ret
 refine ⟨rfl, ?_⟩;exact Xl
theorem toRoom_c (x:XU) (a:Yn) (w:World) (hn:Xy x<=1048576) (hs:Ym w x a) :
 Calls Tryz.prog 72 #[Ya x a] w λ e w'=>∃ a',e=.returned (Ya x a')/\Yr w' w.heap.size x a'/\Below w.heap.size w w':=by
 simp only [Xy] at hn;go_enter Tryz.func72,Tryz.ntmps72
 go_wp2_with (fail)
 refine (toIntS_c a.map.A x.map _ _ (by omega) (Sl.below hs.map (by exact Xl))).mono ?_;rintro e w0 ⟨v0,rfl,N0,hb0⟩;obtain ⟨A0,k0,rfl,ho0⟩:=N0;have N0:XI 3 1 Zm w0 _ (.slice A0 (List.length x.map) k0) x.map:=⟨A0,k0,rfl,ho0⟩;clear ho0;have K0:=N0.blk;replace N0:=N0.mono (base':=w.heap.size+1+1+1) (by first|(simp;done)|(simp;omega)|omega);have r0:=Xh hb0;have f0:=(bcell hb0).2;have l0:w.heap.size<w0.heap.size:=Xo hb0;have m0:w.heap.size+1<w0.heap.size:=Xo hb0;have n0:w.heap.size+1+1<w0.heap.size:=Xo hb0;go_wp2_with (fail)
 refine (toRegion_c x.noise a.noise _ (by simp only [XB];omega) (Y9.below hs.noise (by exact Xl))).mono ?_;rintro e w1 ⟨a1,rfl,N1,hb1⟩;have K1:=N1.blk;replace N1:=N1.mono (base':=w.heap.size+1+1+1) (by first|(simp;done)|(simp;omega)|omega);have r1:=Xh hb1;have f1:=(bcell hb1).2;have s1:w0.heap.size<=w1.heap.size:=by simpa using hb1.size
 have l1:w.heap.size<w1.heap.size:=Xo hb1;have m1:w.heap.size+1<w1.heap.size:=Xo hb1;have n1:w.heap.size+1+1<w1.heap.size:=Xo hb1;go_wp2_with (fail)
 refine (toRegion_c x.limits a.limits _ (by simp only [XB];omega) (Y9.below hs.limits (by exact Xl))).mono ?_;rintro e w2 ⟨a2,rfl,N2,hb2⟩;have K2:=N2.blk;replace N2:=N2.mono (base':=w.heap.size+1+1+1) (by first|(simp;done)|(simp;omega)|omega);have r2:=Xh hb2;have f2:=(bcell hb2).2;have s2:w1.heap.size<=w2.heap.size:=by simpa using hb2.size
 have l2:w.heap.size<w2.heap.size:=Xo hb2;have m2:w.heap.size+1<w2.heap.size:=Xo hb2;have n2:w.heap.size+1+1<w2.heap.size:=Xo hb2;have H:XV w2 (w.heap.size+1) [.slice none 0 0,.int .i64 0,.int .i64 0,.int .i64 0,.int .i64 0,.int .i64 0,.slice none 0 0,.slice none 0 0]:=by
  exact Ys
 obtain ⟨cH_0,fH_0⟩:=H.2 0 _ rfl;obtain ⟨cH_1,fH_1⟩:=H.2 1 _ rfl;obtain ⟨cH_2,fH_2⟩:=H.2 2 _ rfl;obtain ⟨cH_3,fH_3⟩:=H.2 3 _ rfl;obtain ⟨cH_4,fH_4⟩:=H.2 4 _ rfl;obtain ⟨cH_5,fH_5⟩:=H.2 5 _ rfl;obtain ⟨cH_6,fH_6⟩:=H.2 6 _ rfl;obtain ⟨cH_7,fH_7⟩:=H.2 7 _ rfl;go_wp2
 refine bodyPost_ret (v:=Ya x ⟨⟨A0,k0⟩,a1,a2⟩) (by simp [results,Tryz.results72,go_sem,cH_0,cH_1,cH_2,cH_3,cH_4,cH_5,cH_6,cH_7]) rfl ?_;refine ⟨⟨⟨A0,k0⟩,a1,a2⟩,rfl,⟨?_, ?_, ?_, ?_⟩, ?_⟩
 ·refine XI.mono (base:=w.heap.size+1+1+1) ?_ (by omega);repeat (first|(with_reducible exact N0)|(with_reducible refine XI.low ?_ (by first|(simp;done)|(simp;omega)|omega) _)|(with_reducible refine XI.below ?_ (by assumption) XE))
 ·refine XK.mono (base:=w.heap.size+1+1+1) ?_ (by omega);repeat (first|(with_reducible exact N1)|(with_reducible refine XK.low ?_ (by first|(simp;done)|(simp;omega)|omega) _)|(with_reducible refine XK.below ?_ (by assumption) XE))
 ·refine XK.mono (base:=w.heap.size+1+1+1) ?_ (by omega);repeat (first|(with_reducible exact N2)|(with_reducible refine XK.low ?_ (by first|(simp;done)|(simp;omega)|omega) _)|(with_reducible refine XK.below ?_ (by assumption) XE))
 ·simp only [List.pairwise_cons,List.mem_cons,List.not_mem_nil,or_false,forall_eq_or_imp,forall_eq,false_implies,implies_true,List.Pairwise.nil,and_true];exact ⟨⟨Blk.apart (K0) (K1) (by first|(simp;done)|(simp;omega)|omega),Blk.apart (K0) (K2) (by first|(simp;done)|(simp;omega)|omega)⟩,Blk.apart (K1) (K2) (by first|(simp;done)|(simp;omega)|omega)⟩
 ·exact Xl
theorem szWatch_c (x:ZE) (a:ZF) (left:Int) (w:World) (hn:List.length x.room.map<=9223372036854775807/\List.length x.room.noise<=9223372036854775807/\List.length x.room.limits<=9223372036854775807/\List.length x.reg<=9223372036854775807/\List.length x.log<=9223372036854775807) (h0:0<=left) (h1:left<=1048576) :
 Calls Tryz.prog 22 #[XO x a,.int .i64 left] w λ e w'=>e=.returned (.int .i64 (if left-Yd x<0 then -1 else left-Yd x))/\Below w.heap.size w w':=by
 obtain ⟨hn0,JW,hn2,hn3,hn4⟩:=hn;have hlen:Hid (((Yd x:Nat):Int)=((Xy x.room:Nat):Int)+((XB x.reg:Nat):Int)+((List.length x.log:Nat):Int)):=by show _=_;simp only [XB,Xy,Yd];(try omega)
 have p0:(0:Int)<=((Xy x.room:Nat):Int):=Oz
 have p1:(0:Int)<=((XB x.reg:Nat):Int):=Oz
 have p2:(0:Int)<=((List.length x.log:Nat):Int):=Oz
 by_cases c0:left-((Xy x.room:Nat):Int)<0
 ·have hfin:(if left-((Yd x:Nat):Int)<0 then (-1:Int) else left-((Yd x:Nat):Int)) = -1:=by have:=hlen.out;rw [if_pos Oz]
  rw [hfin];clear hfin;go_enter Tryz.func22,Tryz.ntmps22
  go_wp2_with (fail)
  refine (szRoom_c x.room a.room (left) _ ⟨hn0,JW,hn2⟩ (by omega) (by omega)).mono ?_;rw [if_pos (by omega)];rintro e w0 ⟨rfl,hb0⟩;have r0:=Xh hb0;have l0:w.heap.size<w0.heap.size:=Xo hb0;go_wp2
  go_ret
  refine ⟨rfl, ?_⟩;exact Xl
 ·by_cases c1:left-((Xy x.room:Nat):Int)-((XB x.reg:Nat):Int)<0
  ·have hfin:(if left-((Yd x:Nat):Int)<0 then (-1:Int) else left-((Yd x:Nat):Int)) = -1:=by have:=hlen.out;rw [if_pos Oz]
   rw [hfin];clear hfin;go_enter Tryz.func22,Tryz.ntmps22
   go_wp2_with (fail)
   refine (szRoom_c x.room a.room (left) _ ⟨hn0,JW,hn2⟩ (by omega) (by omega)).mono ?_;rw [if_neg (by omega)];rintro e w0 ⟨rfl,hb0⟩;have r0:=Xh hb0;have l0:w.heap.size<w0.heap.size:=Xo hb0;go_wp2_with (fail)
   refine (KN x.reg a.reg (left-((Xy x.room:Nat):Int)) _ hn3 (by omega) (by omega)).mono ?_;rw [if_pos (by omega)];rintro e w1 ⟨rfl,hb1⟩;have r1:=Xh hb1;have l1:w.heap.size<w1.heap.size:=Xo hb1;go_wp2
   go_ret
   refine ⟨rfl, ?_⟩;exact Xl
  ·by_cases c2:left-((Xy x.room:Nat):Int)-((XB x.reg:Nat):Int)-((List.length x.log:Nat):Int)<0
   ·have hfin:(if left-((Yd x:Nat):Int)<0 then (-1:Int) else left-((Yd x:Nat):Int)) = -1:=by have:=hlen.out;rw [if_pos Oz]
    rw [hfin];clear hfin;go_enter Tryz.func22,Tryz.ntmps22
    go_wp2_with (fail)
    refine (szRoom_c x.room a.room (left) _ ⟨hn0,JW,hn2⟩ (by omega) (by omega)).mono ?_;rw [if_neg (by omega)];rintro e w0 ⟨rfl,hb0⟩;have r0:=Xh hb0;have l0:w.heap.size<w0.heap.size:=Xo hb0;go_wp2_with (fail)
    refine (KN x.reg a.reg (left-((Xy x.room:Nat):Int)) _ hn3 (by omega) (by omega)).mono ?_;rw [if_neg (by omega)];rintro e w1 ⟨rfl,hb1⟩;have r1:=Xh hb1;have l1:w.heap.size<w1.heap.size:=Xo hb1;go_wp2_with (fail)
    refine (szIntS_c a.log.A (List.length x.log) a.log.c (left-((Xy x.room:Nat):Int)-((XB x.reg:Nat):Int)) _ hn4 (by omega) (by omega)).mono ?_;rw [if_pos (by omega)];rintro e w' ⟨rfl,rfl⟩;go_wp2
    go_ret
    refine ⟨rfl, ?_⟩;exact Xl
   ·have hfin:(if left-((Yd x:Nat):Int)<0 then (-1:Int) else left-((Yd x:Nat):Int))=left-((Xy x.room:Nat):Int)-((XB x.reg:Nat):Int)-((List.length x.log:Nat):Int):=by have:=hlen.out;(rw [if_neg Oz];omega)
    rw [hfin];clear hfin;go_enter Tryz.func22,Tryz.ntmps22
    go_wp2_with (fail)
    refine (szRoom_c x.room a.room (left) _ ⟨hn0,JW,hn2⟩ (by omega) (by omega)).mono ?_;rw [if_neg (by omega)];rintro e w0 ⟨rfl,hb0⟩;have r0:=Xh hb0;have l0:w.heap.size<w0.heap.size:=Xo hb0;go_wp2_with (fail)
    refine (KN x.reg a.reg (left-((Xy x.room:Nat):Int)) _ hn3 (by omega) (by omega)).mono ?_;rw [if_neg (by omega)];rintro e w1 ⟨rfl,hb1⟩;have r1:=Xh hb1;have l1:w.heap.size<w1.heap.size:=Xo hb1;go_wp2_with (fail)
    refine (szIntS_c a.log.A (List.length x.log) a.log.c (left-((Xy x.room:Nat):Int)-((XB x.reg:Nat):Int)) _ hn4 (by omega) (by omega)).mono ?_;rw [if_neg (by omega)];rintro e w' ⟨rfl,rfl⟩;go_wp2
    go_ret
    refine ⟨rfl, ?_⟩;exact Xl
theorem eqWatch_t (x:ZE) (a b:ZF) (w:World) (hn:Yd x<=1048576) (ha:K6 w x a) (hb:K6 w x b) :
 Calls Tryz.prog 28 #[XO x a,XO x b] w λ e w'=>e=.returned (.bool true)/\Below w.heap.size w w':=by
 simp only [Yd] at hn;go_enter Tryz.func28,Tryz.ntmps28
 go_wp2_with (fail)
 refine (eqRoom_t x.room a.room b.room _ (by simp only [Xy];omega) (Ym.below ha.room (by exact Xl)) (Ym.below hb.room (by exact Xl))).mono ?_;rintro e w0 ⟨rfl,hb0⟩;have r0:=Xh hb0;have l0:w.heap.size<w0.heap.size:=Xo hb0;have m0:w.heap.size+1<w0.heap.size:=Xo hb0;go_wp2_with (fail)
 refine (eqRegion_t x.reg a.reg b.reg _ (by simp only [XB];omega) (Y9.below ha.reg (by exact Xl)) (Y9.below hb.reg (by exact Xl))).mono ?_;rintro e w1 ⟨rfl,hb1⟩;have r1:=Xh hb1;have l1:w.heap.size<w1.heap.size:=Xo hb1;have m1:w.heap.size+1<w1.heap.size:=Xo hb1;go_wp2_with (fail)
 refine (eqIntS_t a.log.A b.log.A x.log _ _ _ (by omega) (Sl.below ha.log (by exact Xl)) (Sl.below hb.log (by exact Xl))).mono ?_;rintro e w2 ⟨rfl,hb2⟩;have r2:=Xh hb2;have l2:w.heap.size<w2.heap.size:=Xo hb2;have m2:w.heap.size+1<w2.heap.size:=Xo hb2;go_wp2
 go_ret
 refine ⟨rfl, ?_⟩;exact Xl
theorem toWatch_c (x:ZE) (a:ZF) (w:World) (hn:Yd x<=1048576) (hs:K6 w x a) :
 Calls Tryz.prog 24 #[XO x a] w λ e w'=>∃ a',e=.returned (XO x a')/\XA w' w.heap.size x a'/\Below w.heap.size w w':=by
 simp only [Yd] at hn;go_enter Tryz.func24,Tryz.ntmps24
 go_wp2_with (fail)
 refine (toRoom_c x.room a.room _ (by simp only [Xy];omega) (Ym.below hs.room (by exact Xl))).mono ?_;rintro e w0 ⟨a0,rfl,N0,hb0⟩;have K0:=N0.blk;replace N0:=N0.mono (base':=w.heap.size+1+1+1) (by first|(simp;done)|(simp;omega)|omega);have r0:=Xh hb0;have f0:=(bcell hb0).2;have l0:w.heap.size<w0.heap.size:=Xo hb0;have m0:w.heap.size+1<w0.heap.size:=Xo hb0;have n0:w.heap.size+1+1<w0.heap.size:=Xo hb0;go_wp2_with (fail)
 refine (toRegion_c x.reg a.reg _ (by simp only [XB];omega) (Y9.below hs.reg (by exact Xl))).mono ?_;rintro e w1 ⟨a1,rfl,N1,hb1⟩;have K1:=N1.blk;replace N1:=N1.mono (base':=w.heap.size+1+1+1) (by first|(simp;done)|(simp;omega)|omega);have r1:=Xh hb1;have f1:=(bcell hb1).2;have s1:w0.heap.size<=w1.heap.size:=by simpa using hb1.size
 have l1:w.heap.size<w1.heap.size:=Xo hb1;have m1:w.heap.size+1<w1.heap.size:=Xo hb1;have n1:w.heap.size+1+1<w1.heap.size:=Xo hb1;go_wp2_with (fail)
 refine (toIntS_c a.log.A x.log _ _ (by omega) (Sl.below hs.log (by exact Xl))).mono ?_;rintro e w2 ⟨v2,rfl,N2,hb2⟩;obtain ⟨A2,k2,rfl,ho2⟩:=N2;have N2:XI 3 1 Zm w2 _ (.slice A2 (List.length x.log) k2) x.log:=⟨A2,k2,rfl,ho2⟩;clear ho2;have K2:=N2.blk;replace N2:=N2.mono (base':=w.heap.size+1+1+1) (by first|(simp;done)|(simp;omega)|omega);have r2:=Xh hb2;have f2:=(bcell hb2).2;have s2:w1.heap.size<=w2.heap.size:=by simpa using hb2.size
 have l2:w.heap.size<w2.heap.size:=Xo hb2;have m2:w.heap.size+1<w2.heap.size:=Xo hb2;have n2:w.heap.size+1+1<w2.heap.size:=Xo hb2;have H:XV w2 (w.heap.size+1) [.slice none 0 0,.int .i64 0,.int .i64 0,.int .i64 0,.int .i64 0,.int .i64 0,.slice none 0 0,.slice none 0 0,.slice none 0 0,.slice none 0 0]:=by
  exact Ys
 obtain ⟨cH_0,fH_0⟩:=H.2 0 _ rfl;obtain ⟨cH_1,fH_1⟩:=H.2 1 _ rfl;obtain ⟨cH_2,fH_2⟩:=H.2 2 _ rfl;obtain ⟨cH_3,fH_3⟩:=H.2 3 _ rfl;obtain ⟨cH_4,fH_4⟩:=H.2 4 _ rfl;obtain ⟨cH_5,fH_5⟩:=H.2 5 _ rfl;obtain ⟨cH_6,fH_6⟩:=H.2 6 _ rfl;obtain ⟨cH_7,fH_7⟩:=H.2 7 _ rfl;obtain ⟨cH_8,fH_8⟩:=H.2 8 _ rfl;obtain ⟨cH_9,fH_9⟩:=H.2 9 _ rfl;go_wp2
 refine bodyPost_ret (v:=XO x ⟨a0,a1,⟨A2,k2⟩⟩) (by simp [results,Tryz.results24,go_sem,cH_0,cH_1,cH_2,cH_3,cH_4,cH_5,cH_6,cH_7,cH_8,cH_9]) rfl ?_;refine ⟨⟨a0,a1,⟨A2,k2⟩⟩,rfl,⟨?_, ?_, ?_, ?_⟩, ?_⟩
 ·refine Yr.mono (base:=w.heap.size+1+1+1) ?_ (by omega);repeat (first|(with_reducible exact N0)|(with_reducible refine Yr.low ?_ (by first|(simp;done)|(simp;omega)|omega) _)|(with_reducible refine Yr.below ?_ (by assumption) XE))
 ·refine XK.mono (base:=w.heap.size+1+1+1) ?_ (by omega);repeat (first|(with_reducible exact N1)|(with_reducible refine XK.low ?_ (by first|(simp;done)|(simp;omega)|omega) _)|(with_reducible refine XK.below ?_ (by assumption) XE))
 ·refine XI.mono (base:=w.heap.size+1+1+1) ?_ (by omega);repeat (first|(with_reducible exact N2)|(with_reducible refine XI.low ?_ (by first|(simp;done)|(simp;omega)|omega) _)|(with_reducible refine XI.below ?_ (by assumption) XE))
 ·simp only [List.pairwise_cons,List.mem_cons,List.not_mem_nil,or_false,forall_eq_or_imp,forall_eq,false_implies,implies_true,List.Pairwise.nil,and_true];have Q0:=N0.apart;simp only [List.pairwise_cons,List.mem_cons,List.not_mem_nil,or_false,forall_eq_or_imp,forall_eq,false_implies,implies_true,List.Pairwise.nil,and_true] at Q0;exact ⟨⟨Q0.1.1,Q0.1.2,Blk.apart (K0.1) (K1) (by first|(simp;done)|(simp;omega)|omega),Blk.apart (K0.1) (K2) (by first|(simp;done)|(simp;omega)|omega)⟩,⟨Q0.2,Blk.apart (K0.2.1) (K1) (by first|(simp;done)|(simp;omega)|omega),Blk.apart (K0.2.1) (K2) (by first|(simp;done)|(simp;omega)|omega)⟩,⟨Blk.apart (K0.2.2) (K1) (by first|(simp;done)|(simp;omega)|omega),Blk.apart (K0.2.2) (K2) (by first|(simp;done)|(simp;omega)|omega)⟩,Blk.apart (K1) (K2) (by first|(simp;done)|(simp;omega)|omega)⟩
 ·exact Xl
end Go.Proofs.YtbekjpkcicjcgaaGreat
