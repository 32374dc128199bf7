/-
 The functions on tables: what they return.
 Conditions: the slice of cells holds at most 2^20 ints.
-/
import Derived.Test.YtkjimfapbjdafaaGreatGrC
import Derived.StillTailTactics
set_option maxHeartbeats 2000000
set_option maxRecDepth 100000
namespace Go.Proofs.YtkjimfapbjdafaaGreat
open Go.RowKit
structure Tab where
 x0:Int
 y0:Int
 step:Int
 nx:Int
 ny:Int
 cells:List Int
def Tab.In (t:Tab):Prop:=Zv t.x0/\Zv t.y0/\Zv t.step/\Zv t.nx/\Zv t.ny
theorem XI.low {α:Type} {T sz:Nat} {enc:α->List Value} {w:World} {base:Nat} {v:Value} {xs:List α} (h:XI T sz enc w base v xs) {p:Addr} (hp:p.block<base) (u:Value):XI T sz enc (w.setCell p u) base v xs:=by
 obtain ⟨A,cap,rfl,ho⟩:=h;exact ⟨A,cap,rfl,ownsRow_setCell_below ho hp u⟩
theorem szIntS_c (A:Option Addr) (n cap:Nat) (left:Int) (w:World) (hn:n<=9223372036854775807) (h0:0<=left) (h1:left<=1048576) :
 Calls Tryz.prog 81 #[.slice A n cap,.int .i64 left] w λ e w'=>e=.returned (.int .i64 (if left-n<0 then -1 else left-n))/\w=w':=by
 by_cases h:left-n<0
 all_goals
  go_enter Tryz.func81,Tryz.ntmps81
  go_wp2
  go_ret
  exact ⟨Zo (by simp),rfl⟩
theorem toIntS_c (A:Option Addr) (xs:List Int) (cap:Nat) (w:World) (hn:xs.length<=1048576) (hs:Sl 1 Y6 w A xs) :
 Calls Tryz.prog 62 #[.slice A xs.length cap] w λ e w'=>∃ v,e=.returned v/\XI 3 1 Y6 w' w.heap.size v xs/\Below w.heap.size w w':=by
 obtain ⟨i0,hi0,hz0,hz1,hz2⟩:=info_parts (show (Tryz.prog.info? 3).map (λ i=>(i.zero,i.size,i.bytes))=some (some (.int .i64 0),1,8) by kernel_rfl);have hmk:∀ W:World,(Instr.makeSlice 22 (.int .i64 (xs.length:Int)) (.int .i64 (xs.length:Int))).run Tryz.prog W=.ok (.slice (some ⟨W.heap.size,0,none⟩) xs.length xs.length) (W.alloc (.cells (madeCells #[.int .i64 0] xs.length) 3)):=by
  intro W;have h:=run_make (P:=Tryz.prog) W 22 3 i0 _ Tryz.underlying22 hi0 hz0 .i64 .i64 (xs.length:Int) (xs.length:Int) (by omega) (by omega) (by rw [hz2];omega) (by omega);rw [hz1] at h;simpa [Value.cells] using h
 go_enter Tryz.func62,Tryz.ntmps62
 go_wp2
 go_loopw [4] (λ i wr=>∃ k:Nat,k<=xs.length/\i=.int .i64 k/\Kg 3 1 Y6 wr w.heap.size (xs.length*1) xs k/\Below w.heap.size w wr) (λ i _=>xs.length-(intOf i).toNat)
 case atStart=>exact ⟨0,Nat.zero_le _,rfl,Kg.start (by simp [madeCells]) Xh,Xd bR _⟩
 case round =>
  obtain ⟨k,hk,rfl,hfill,hbw⟩:=hrel;by_cases hlt:k<xs.length
  ·obtain ⟨b,off,rfl,hblt,hc⟩:=(hs.below hbw).at_ hlt;have g0:=hc 0 _ rfl;clear hc;simp only [Nat.mul_one,Nat.add_zero] at g0;obtain ⟨u0,c0⟩:=hfill.cell (m:=k) (by omega);have f0:=hfill.frozen k;have hst:=hfill.stored YQ hlt (vs:=Y6 xs[k]) rfl;have hst2:=below_setCells (Nat.le_refl w.heap.size) (Y6 xs[k]) (k*1) _ hbw;rw [Nat.mul_one] at hst hst2;generalize xs[k]=x at *;go_wp2
   exact ⟨⟨k+1,by omega,by go_num,hst,hst2⟩,by simp [intOf];omega⟩
  ·obtain rfl:k=xs.length:=by omega
   go_wp2
   go_ret
   exact ⟨_,rfl,hfill.new YQ Xh (by unfold maxLen;omega),hbw⟩
theorem eqIntS_t (A B:Option Addr) (xs:List Int) (c d:Nat) (w:World) (hn:xs.length<=1048576) (ha:Sl 1 Y6 w A xs) (hb:Sl 1 Y6 w B xs) :
 Calls Tryz.prog 23 #[.slice A xs.length c,.slice B xs.length d] w λ e w'=>e=.returned (.bool true)/\Below w.heap.size w w':=by
 go_enter Tryz.func23,Tryz.ntmps23
 go_wp2
 go_loopw [5] (λ i wr=>∃ k:Nat,k<=xs.length/\i=.int .i64 k/\Below w.heap.size w wr) (λ i _=>xs.length-(intOf i).toNat)
 case atStart=>exact ⟨0,Nat.zero_le _,rfl,Below.refl _ _⟩
 case round =>
  obtain ⟨k,hk,rfl,hbw⟩:=hrel;by_cases hlt:k<xs.length
  ·obtain ⟨b,off,rfl,hblt,hc⟩:=(ha.below hbw).at_ hlt;obtain ⟨b',off',rfl,hblt',hc'⟩:=(hb.below hbw).at_ hlt;have g0:=hc 0 _ rfl;have g1:=hc' 0 _ rfl;clear hc hc';simp only [Nat.mul_one,Nat.add_zero] at g0 g1;generalize xs[k]=x at *;have i1:(0:Int)<=(k:Int):=by omega
   have i2:(k:Int)<(xs.length:Int):=by omega
   go_wp2
   go_quiet (fail)
   go_wp2
   exact ⟨⟨k+1,by omega,by go_num,Zn hbw _⟩,by simp [intOf];omega⟩
  ·go_wp2
   go_ret
   exact ⟨rfl,hbw⟩
structure XT (w:World) (base:Nat) (x:List Half) (a:ZY):Prop where
 halves:XI 175 3 Xk w base (.slice a.A (List.length x) a.c) x
theorem XT.sl {w:World} {base:Nat} {x:List Half} {a:ZY} (h:XT w base x a):ZS w x a:=⟨h.halves.out XD⟩
theorem XT.below {w w':World} {base B:Nat} {x:List Half} {a:ZY} (h:XT w base x a) (hb:Below B w w') (hB:w.heap.size<=B):XT w' base x a:=⟨h.halves.below hb hB⟩
theorem XT.mono {w:World} {base base':Nat} {x:List Half} {a:ZY} (h:XT w base x a) (hb:base'<=base):XT w base' x a:=⟨h.halves.mono hb⟩
theorem XT.low {w:World} {base:Nat} {x:List Half} {a:ZY} (h:XT w base x a) {p:Addr} (hp:p.block<base) (u:Value):XT (w.setCell p u) base x a:=⟨h.halves.low hp u⟩
theorem XT.blk {w:World} {base:Nat} {x:List Half} {a:ZY} (h:XT w base x a):Blk base w.heap.size a:=h.halves.blk
structure Yq (w:World) (base:Nat) (x:X3) (a:YO):Prop where
 map:XI 3 1 Y6 w base (.slice a.map.A (List.length x.map) a.map.c) x.map
 noise:XT w base x.noise a.noise
 limits:XT w base x.limits a.limits
 apart:List.Pairwise JX [a.map,a.noise,a.limits]
theorem Yq.sl {w:World} {base:Nat} {x:X3} {a:YO} (h:Yq w base x a):YH w x a:=⟨h.map.out YQ,h.noise.sl,h.limits.sl⟩
theorem Yq.below {w w':World} {base B:Nat} {x:X3} {a:YO} (h:Yq w base x a) (hb:Below B w w') (hB:w.heap.size<=B):Yq w' base x a:=⟨h.map.below hb hB,h.noise.below hb hB,h.limits.below hb hB,h.apart⟩
theorem Yq.mono {w:World} {base base':Nat} {x:X3} {a:YO} (h:Yq w base x a) (hb:base'<=base):Yq w base' x a:=⟨h.map.mono hb,h.noise.mono hb,h.limits.mono hb,h.apart⟩
theorem Yq.low {w:World} {base:Nat} {x:X3} {a:YO} (h:Yq w base x a) {p:Addr} (hp:p.block<base) (u:Value):Yq (w.setCell p u) base x a:=⟨h.map.low hp u,h.noise.low hp u,h.limits.low hp u,h.apart⟩
theorem Yq.blk {w:World} {base:Nat} {x:X3} {a:YO} (h:Yq w base x a):Blk base w.heap.size a.map/\Blk base w.heap.size a.noise/\Blk base w.heap.size a.limits:=⟨h.map.blk,h.noise.blk,h.limits.blk⟩
structure Yy (w:World) (base:Nat) (x:Jf) (a:Jn):Prop where
 room:Yq w base x.room a.room
 reg:XT w base x.reg a.reg
 log:XI 3 1 Y6 w base (.slice a.log.A (List.length x.log) a.log.c) x.log
 apart:List.Pairwise JX [a.room.map,a.room.noise,a.room.limits,a.reg,a.log]
theorem Yy.sl {w:World} {base:Nat} {x:Jf} {a:Jn} (h:Yy w base x a):WatchSl w x a:=⟨h.room.sl,h.reg.sl,h.log.out YQ⟩
theorem Yy.below {w w':World} {base B:Nat} {x:Jf} {a:Jn} (h:Yy w base x a) (hb:Below B w w') (hB:w.heap.size<=B):Yy w' base x a:=⟨h.room.below hb hB,h.reg.below hb hB,h.log.below hb hB,h.apart⟩
theorem Yy.mono {w:World} {base base':Nat} {x:Jf} {a:Jn} (h:Yy w base x a) (hb:base'<=base):Yy w base' x a:=⟨h.room.mono hb,h.reg.mono hb,h.log.mono hb,h.apart⟩
theorem Yy.low {w:World} {base:Nat} {x:Jf} {a:Jn} (h:Yy w base x a) {p:Addr} (hp:p.block<base) (u:Value):Yy (w.setCell p u) base x a:=⟨h.room.low hp u,h.reg.low hp u,h.log.low hp u,h.apart⟩
theorem Yy.blk {w:World} {base:Nat} {x:Jf} {a:Jn} (h:Yy w base x a):Blk base w.heap.size a.room.map/\Blk base w.heap.size a.room.noise/\Blk base w.heap.size a.room.limits/\Blk base w.heap.size a.reg/\Blk base w.heap.size a.log:=⟨h.room.blk.1,h.room.blk.2.1,h.room.blk.2.2,h.reg.blk,h.log.blk⟩
structure YG (w:World) (base:Nat) (x:Track) (a:TrackA):Prop where
 spots:XI 44 3 Zm w base (.slice a.spots.A (List.length x.spots) a.spots.c) x.spots
 inputs:XI 70 2 Jw w base (.slice a.inputs.A (List.length x.inputs) a.inputs.c) x.inputs
 apart:List.Pairwise JX [a.spots,a.inputs]
theorem YG.sl {w:World} {base:Nat} {x:Track} {a:TrackA} (h:YG w base x a):TrackSl w x a:=⟨h.spots.out Zt,h.inputs.out ratioC_len⟩
theorem YG.below {w w':World} {base B:Nat} {x:Track} {a:TrackA} (h:YG w base x a) (hb:Below B w w') (hB:w.heap.size<=B):YG w' base x a:=⟨h.spots.below hb hB,h.inputs.below hb hB,h.apart⟩
theorem YG.mono {w:World} {base base':Nat} {x:Track} {a:TrackA} (h:YG w base x a) (hb:base'<=base):YG w base' x a:=⟨h.spots.mono hb,h.inputs.mono hb,h.apart⟩
theorem YG.low {w:World} {base:Nat} {x:Track} {a:TrackA} (h:YG w base x a) {p:Addr} (hp:p.block<base) (u:Value):YG (w.setCell p u) base x a:=⟨h.spots.low hp u,h.inputs.low hp u,h.apart⟩
theorem YG.blk {w:World} {base:Nat} {x:Track} {a:TrackA} (h:YG w base x a):Blk base w.heap.size a.spots/\Blk base w.heap.size a.inputs:=⟨h.spots.blk,h.inputs.blk⟩
structure Jg (w:World) (base:Nat) (x:Law) (a:LawA):Prop where
 lows:XI 171 4 pieceC w base (.slice a.lows.A (List.length x.lows) a.lows.c) x.lows
 highs:XI 171 4 pieceC w base (.slice a.highs.A (List.length x.highs) a.highs.c) x.highs
 apart:List.Pairwise JX [a.lows,a.highs]
theorem Jg.sl {w:World} {base:Nat} {x:Law} {a:LawA} (h:Jg w base x a):LawSl w x a:=⟨h.lows.out pieceC_len,h.highs.out pieceC_len⟩
theorem Jg.below {w w':World} {base B:Nat} {x:Law} {a:LawA} (h:Jg w base x a) (hb:Below B w w') (hB:w.heap.size<=B):Jg w' base x a:=⟨h.lows.below hb hB,h.highs.below hb hB,h.apart⟩
theorem Jg.mono {w:World} {base base':Nat} {x:Law} {a:LawA} (h:Jg w base x a) (hb:base'<=base):Jg w base' x a:=⟨h.lows.mono hb,h.highs.mono hb,h.apart⟩
theorem Jg.low {w:World} {base:Nat} {x:Law} {a:LawA} (h:Jg w base x a) {p:Addr} (hp:p.block<base) (u:Value):Jg (w.setCell p u) base x a:=⟨h.lows.low hp u,h.highs.low hp u,h.apart⟩
theorem Jg.blk {w:World} {base:Nat} {x:Law} {a:LawA} (h:Jg w base x a):Blk base w.heap.size a.lows/\Blk base w.heap.size a.highs:=⟨h.lows.blk,h.highs.blk⟩
theorem toHalf_c (x:Half) (w:World) :
 Calls Tryz.prog 161 #[YW x] w λ e w'=>e=.returned (YW x)/\Below w.heap.size w w':=by
 go_enter Tryz.func161,Tryz.ntmps161
 go_wp2
 refine bodyPost_ret (v:=.agg #[.int .i64 x.a,.int .i64 x.b,.int .i64 x.c]) (by simp [results,Tryz.results161,go_sem]) rfl ⟨rfl, ?_⟩;exact XA
theorem eqHalf_t (x:Half) (w:World) :
 Calls Tryz.prog 164 #[YW x,YW x] w λ e w'=>e=.returned (.bool true)/\Below w.heap.size w w':=by
 go_enter Tryz.func164,Tryz.ntmps164
 go_wp2
 go_ret
 refine ⟨rfl, ?_⟩;exact XA
theorem szHalfS_c (A:Option Addr) (n cap:Nat) (left:Int) (w:World) (hn:n<=9223372036854775807) (h0:0<=left) (h1:left<=1048576) :
 Calls Tryz.prog 82 #[.slice A n cap,.int .i64 left] w λ e w'=>e=.returned (.int .i64 (if left-n<0 then -1 else left-n))/\w=w':=by
 by_cases h:left-n<0
 all_goals
  go_enter Tryz.func82,Tryz.ntmps82
  go_wp2
  go_ret
  exact ⟨Zo (by simp),rfl⟩
theorem eqHalfS_t (A B:Option Addr) (xs:List Half) (c d:Nat) (w:World) (hn:xs.length<=1048576) (ha:Sl 3 Xk w A xs) (hb:Sl 3 Xk w B xs) :
 Calls Tryz.prog 92 #[.slice A xs.length c,.slice B xs.length d] w λ e w'=>e=.returned (.bool true)/\Below w.heap.size w w':=by
 go_enter Tryz.func92,Tryz.ntmps92
 go_wp2
 go_loopw [5] (λ i wr=>∃ k:Nat,k<=xs.length/\i=.int .i64 k/\Below w.heap.size w wr) (λ i _=>xs.length-(intOf i).toNat)
 case atStart=>exact ⟨0,Nat.zero_le _,rfl,Below.refl _ _⟩
 case round =>
  obtain ⟨k,hk,rfl,hbw⟩:=hrel;by_cases hlt:k<xs.length
  ·obtain ⟨b,off,rfl,hblt,hc⟩:=(ha.below hbw).at_ hlt;obtain ⟨b',off',rfl,hblt',hc'⟩:=(hb.below hbw).at_ hlt;have g0:=hc 0 _ rfl;have g1:=hc 1 _ rfl;have g2:=hc 2 _ rfl;have g0':=hc' 0 _ rfl;have g1':=hc' 1 _ rfl;have g2':=hc' 2 _ rfl;clear hc hc';simp only [Nat.add_zero] at g0 g0';generalize xs[k]=x at *;go_wp2
   go_still_tail 8,(by kernel_rfl)
   change wpList _ _ _ _ _ wr.drew
   generalize hwr:wr.drew=w2;have hb2:Below w.heap.size w w2:=by rw [<- hwr];exact hbw.drew
   clear hwr;go_wp2_with (fail)
   refine (eqHalf_t x _).mono ?_;rintro e w1 ⟨rfl,hb1⟩;go_wp2
   go_roundw
   case rel=>exact ⟨k+1,by omega,by go_num,hb2.trans (hb1.mono hb2.size)⟩
   case measure=>simp [intOf];omega
  ·go_wp2
   go_ret
   exact ⟨rfl,hbw⟩
theorem toHalfS_c (A:Option Addr) (xs:List Half) (cap:Nat) (w:World) (hn:xs.length<=1048576) (hs:Sl 3 Xk w A xs) :
 Calls Tryz.prog 87 #[.slice A xs.length cap] w λ e w'=>∃ v,e=.returned v/\XI 175 3 Xk w' w.heap.size v xs/\Below w.heap.size w w':=by
 obtain ⟨i0,hi0,hz0,hz1,hz2⟩:=info_parts (show (Tryz.prog.info? 175).map (λ i=>(i.zero,i.size,i.bytes))=some (some (.agg #[.int .i64 0,.int .i64 0,.int .i64 0]),3,24) by kernel_rfl);have hmk:∀ W:World,(Instr.makeSlice 35 (.int .i64 (xs.length:Int)) (.int .i64 (xs.length:Int))).run Tryz.prog W=.ok (.slice (some ⟨W.heap.size,0,none⟩) xs.length xs.length) (W.alloc (.cells (madeCells #[.int .i64 0,.int .i64 0,.int .i64 0] (xs.length*3)) 175)):=by
  intro W;have h:=run_make (P:=Tryz.prog) W 35 175 i0 _ Tryz.underlying35 hi0 hz0 .i64 .i64 (xs.length:Int) (xs.length:Int) (by omega) (by omega) (by rw [hz2];omega) (by omega);rw [hz1] at h;simpa [Value.cells] using h
 go_enter Tryz.func87,Tryz.ntmps87
 go_wp2
 go_loopw [4] (λ i wr=>∃ k:Nat,k<=xs.length/\i=.int .i64 k/\Kg 175 3 Xk wr w.heap.size (xs.length*3) xs k/\Below w.heap.size w wr) (λ i _=>xs.length-(intOf i).toNat)
 case atStart=>exact ⟨0,Nat.zero_le _,rfl,Kg.start (by simp [madeCells]) Xh,Xd bR _⟩
 case round =>
  obtain ⟨k,hk,rfl,hfill,hbw⟩:=hrel;by_cases hlt:k<xs.length
  ·obtain ⟨b,off,rfl,hblt,hc⟩:=(hs.below hbw).at_ hlt;have g0:=hc 0 _ rfl;have g1:=hc 1 _ rfl;have g2:=hc 2 _ rfl;clear hc;simp only [Nat.add_zero] at g0;have hx:xs[k]=xs[k]:=rfl;generalize hxx:xs[k]=x at *;have HX:=Lib.hid hxx;clear hxx hx;go_wp2_with (fail)
   refine (toHalf_c x _).mono ?_;rintro e w1 ⟨rfl,hb1⟩;have hfill1:=hfill.below hb1;have hbw1:=Xn hbw hb1;have hm:=Nat.mul_le_mul_right 3 hlt;obtain ⟨u0,c0⟩:=hfill1.cell (m:=k*3) (by omega);have f0:=hfill1.frozen (k*3);obtain ⟨u1,c1⟩:=hfill1.cell (m:=k*3+1) (by omega);have f1:=hfill1.frozen (k*3+1);obtain ⟨u2,c2⟩:=hfill1.cell (m:=k*3+2) (by omega);have f2:=hfill1.frozen (k*3+2);clear hm;have hst:=hfill1.stored XD hlt (vs:=Xk x) (by rw [HX.out]);have hst2:=below_setCells (Nat.le_refl w.heap.size) (Xk x) (k*3) _ hbw1;go_wp2
   exact ⟨⟨k+1,by omega,by go_num,hst,hst2⟩,by simp [intOf];omega⟩
  ·obtain rfl:k=xs.length:=by omega
   go_wp2
   go_ret
   exact ⟨_,rfl,hfill.new XD Xh (by unfold maxLen;omega),hbw⟩
theorem KD (x:List Half) (a:ZY) (left:Int) (w:World) (hn:List.length x<=9223372036854775807) (h0:0<=left) (h1:left<=1048576) :
 Calls Tryz.prog 16 #[Zb x a,.int .i64 left] w λ e w'=>e=.returned (.int .i64 (if left-Xm x<0 then -1 else left-Xm x))/\Below w.heap.size w w':=by
 have hn0:=hn;have hlen:Hid (((Xm x:Nat):Int)=((List.length x:Nat):Int)):=by show _=_;simp only [Xm];(try omega)
 have p0:(0:Int)<=((List.length x:Nat):Int):=by omega
 by_cases c0:left-((List.length x:Nat):Int)<0
 ·have hfin:(if left-((Xm x:Nat):Int)<0 then (-1:Int) else left-((Xm x:Nat):Int)) = -1:=by have:=hlen.out;rw [if_pos (by omega)]
  rw [hfin];clear hfin;go_enter Tryz.func16,Tryz.ntmps16
  go_wp2_with (fail)
  refine (szHalfS_c a.A (List.length x) a.c (left) _ hn0 (by omega) (by omega)).mono ?_;rw [if_pos (by omega)];rintro e w' ⟨rfl,rfl⟩;go_wp2
  go_ret
  refine ⟨rfl, ?_⟩;exact XA
 ·have hfin:(if left-((Xm x:Nat):Int)<0 then (-1:Int) else left-((Xm x:Nat):Int))=left-((List.length x:Nat):Int):=by have:=hlen.out;(rw [if_neg (by omega)];omega)
  rw [hfin];clear hfin;go_enter Tryz.func16,Tryz.ntmps16
  go_wp2_with (fail)
  refine (szHalfS_c a.A (List.length x) a.c (left) _ hn0 (by omega) (by omega)).mono ?_;rw [if_neg (by omega)];rintro e w' ⟨rfl,rfl⟩;go_wp2
  go_ret
  refine ⟨rfl, ?_⟩;exact XA
theorem JO (x:List Half) (a b:ZY) (w:World) (hn:Xm x<=1048576) (ha:ZS w x a) (hb:ZS w x b) :
 Calls Tryz.prog 26 #[Zb x a,Zb x b] w λ e w'=>e=.returned (.bool true)/\Below w.heap.size w w':=by
 simp only [Xm] at hn;go_enter Tryz.func26,Tryz.ntmps26
 go_wp2_with (fail)
 refine (eqHalfS_t a.A b.A x _ _ _ (by omega) (Sl.below ha.halves (by exact XA)) (Sl.below hb.halves (by exact XA))).mono ?_;rintro e w0 ⟨rfl,hb0⟩;have r0:=Xz hb0;have l0:w.heap.size<w0.heap.size:=XO hb0;have m0:w.heap.size+1<w0.heap.size:=XO hb0;go_wp2
 go_ret
 refine ⟨rfl, ?_⟩;exact XA
theorem Kw (x:List Half) (a:ZY) (w:World) (hn:Xm x<=1048576) (hs:ZS w x a) :
 Calls Tryz.prog 20 #[Zb x a] w λ e w'=>∃ a',e=.returned (Zb x a')/\XT w' w.heap.size x a'/\Below w.heap.size w w':=by
 simp only [Xm] at hn;go_enter Tryz.func20,Tryz.ntmps20
 go_wp2_with (fail)
 refine (toHalfS_c a.A x _ _ (by omega) (Sl.below hs.halves (by exact XA))).mono ?_;rintro e w0 ⟨v0,rfl,N0,hb0⟩;obtain ⟨A0,k0,rfl,ho0⟩:=N0;have N0:XI 175 3 Xk w0 _ (.slice A0 (List.length x) k0) x:=⟨A0,k0,rfl,ho0⟩;clear ho0;have K0:=N0.blk;replace N0:=N0.mono (base':=w.heap.size+1+1+1) (by first|(simp;done)|(simp;omega)|omega);have r0:=Xz hb0;have f0:=(bcell hb0).2;have l0:w.heap.size<w0.heap.size:=XO hb0;have m0:w.heap.size+1<w0.heap.size:=XO hb0;have n0:w.heap.size+1+1<w0.heap.size:=XO hb0;have H:YI w0 (w.heap.size+1) [.slice none 0 0]:=by
  exact Zp
 obtain ⟨cH_0,fH_0⟩:=H.2 0 _ rfl;go_wp2
 refine bodyPost_ret (v:=Zb x ⟨A0,k0⟩) (by simp [results,Tryz.results20,go_sem,cH_0]) rfl ?_;refine ⟨⟨A0,k0⟩,rfl,⟨?_⟩, ?_⟩
 ·refine XI.mono (base:=w.heap.size+1+1+1) ?_ (by omega);repeat (first|(with_reducible exact N0)|(with_reducible refine XI.low ?_ (by first|(simp;done)|(simp;omega)|omega) _)|(with_reducible refine XI.below ?_ (by assumption) Xh))
 ·exact XA
theorem J8 (x:X3) (a:YO) (left:Int) (w:World) (hn:List.length x.map<=9223372036854775807/\List.length x.noise<=9223372036854775807/\List.length x.limits<=9223372036854775807) (h0:0<=left) (h1:left<=1048576) :
 Calls Tryz.prog 14 #[XN x a,.int .i64 left] w λ e w'=>e=.returned (.int .i64 (if left-Xs x<0 then -1 else left-Xs x))/\Below w.heap.size w w':=by
 obtain ⟨hn0,hn1,hn2⟩:=hn;have hlen:Hid (((Xs x:Nat):Int)=((List.length x.map:Nat):Int)+((Xm x.noise:Nat):Int)+((Xm x.limits:Nat):Int)):=by show _=_;simp only [Xm,Xs];(try omega)
 have p0:(0:Int)<=((List.length x.map:Nat):Int):=by omega
 have p1:(0:Int)<=((Xm x.noise:Nat):Int):=by omega
 have p2:(0:Int)<=((Xm x.limits:Nat):Int):=by omega
 by_cases c0:left-((List.length x.map:Nat):Int)<0
 ·have hfin:(if left-((Xs x:Nat):Int)<0 then (-1:Int) else left-((Xs x:Nat):Int)) = -1:=by have:=hlen.out;rw [if_pos (by omega)]
  rw [hfin];clear hfin;go_enter Tryz.func14,Tryz.ntmps14
  go_wp2_with (fail)
  refine (szIntS_c a.map.A (List.length x.map) a.map.c (left) _ hn0 (by omega) (by omega)).mono ?_;rw [if_pos (by omega)];rintro e w' ⟨rfl,rfl⟩;go_wp2
  go_ret
  refine ⟨rfl, ?_⟩;exact XA
 ·by_cases c1:left-((List.length x.map:Nat):Int)-((Xm x.noise:Nat):Int)<0
  ·have hfin:(if left-((Xs x:Nat):Int)<0 then (-1:Int) else left-((Xs x:Nat):Int)) = -1:=by have:=hlen.out;rw [if_pos (by omega)]
   rw [hfin];clear hfin;go_enter Tryz.func14,Tryz.ntmps14
   go_wp2_with (fail)
   refine (szIntS_c a.map.A (List.length x.map) a.map.c (left) _ hn0 (by omega) (by omega)).mono ?_;rw [if_neg (by omega)];rintro e w' ⟨rfl,rfl⟩;go_wp2_with (fail)
   refine (KD x.noise a.noise (left-((List.length x.map:Nat):Int)) _ hn1 (by omega) (by omega)).mono ?_;rw [if_pos (by omega)];rintro e w1 ⟨rfl,hb1⟩;have r1:=Xz hb1;have l1:w.heap.size<w1.heap.size:=XO hb1;go_wp2
   go_ret
   refine ⟨rfl, ?_⟩;exact XA
  ·by_cases c2:left-((List.length x.map:Nat):Int)-((Xm x.noise:Nat):Int)-((Xm x.limits:Nat):Int)<0
   ·have hfin:(if left-((Xs x:Nat):Int)<0 then (-1:Int) else left-((Xs x:Nat):Int)) = -1:=by have:=hlen.out;rw [if_pos (by omega)]
    rw [hfin];clear hfin;go_enter Tryz.func14,Tryz.ntmps14
    go_wp2_with (fail)
    refine (szIntS_c a.map.A (List.length x.map) a.map.c (left) _ hn0 (by omega) (by omega)).mono ?_;rw [if_neg (by omega)];rintro e w' ⟨rfl,rfl⟩;go_wp2_with (fail)
    refine (KD x.noise a.noise (left-((List.length x.map:Nat):Int)) _ hn1 (by omega) (by omega)).mono ?_;rw [if_neg (by omega)];rintro e w1 ⟨rfl,hb1⟩;have r1:=Xz hb1;have l1:w.heap.size<w1.heap.size:=XO hb1;go_wp2_with (fail)
    refine (KD x.limits a.limits (left-((List.length x.map:Nat):Int)-((Xm x.noise:Nat):Int)) _ hn2 (by omega) (by omega)).mono ?_;rw [if_pos (by omega)];rintro e w2 ⟨rfl,hb2⟩;have r2:=Xz hb2;have l2:w.heap.size<w2.heap.size:=XO hb2;go_wp2
    go_ret
    refine ⟨rfl, ?_⟩;exact XA
   ·have hfin:(if left-((Xs x:Nat):Int)<0 then (-1:Int) else left-((Xs x:Nat):Int))=left-((List.length x.map:Nat):Int)-((Xm x.noise:Nat):Int)-((Xm x.limits:Nat):Int):=by have:=hlen.out;(rw [if_neg (by omega)];omega)
    rw [hfin];clear hfin;go_enter Tryz.func14,Tryz.ntmps14
    go_wp2_with (fail)
    refine (szIntS_c a.map.A (List.length x.map) a.map.c (left) _ hn0 (by omega) (by omega)).mono ?_;rw [if_neg (by omega)];rintro e w' ⟨rfl,rfl⟩;go_wp2_with (fail)
    refine (KD x.noise a.noise (left-((List.length x.map:Nat):Int)) _ hn1 (by omega) (by omega)).mono ?_;rw [if_neg (by omega)];rintro e w1 ⟨rfl,hb1⟩;have r1:=Xz hb1;have l1:w.heap.size<w1.heap.size:=XO hb1;go_wp2_with (fail)
    refine (KD x.limits a.limits (left-((List.length x.map:Nat):Int)-((Xm x.noise:Nat):Int)) _ hn2 (by omega) (by omega)).mono ?_;rw [if_neg (by omega)];rintro e w2 ⟨rfl,hb2⟩;have r2:=Xz hb2;have l2:w.heap.size<w2.heap.size:=XO hb2;go_wp2
    go_ret
    refine ⟨rfl, ?_⟩;exact XA
theorem eqRoom_t (x:X3) (a b:YO) (w:World) (hn:Xs x<=1048576) (ha:YH w x a) (hb:YH w x b) :
 Calls Tryz.prog 24 #[XN x a,XN x b] w λ e w'=>e=.returned (.bool true)/\Below w.heap.size w w':=by
 simp only [Xs] at hn;go_enter Tryz.func24,Tryz.ntmps24
 go_wp2_with (fail)
 refine (eqIntS_t a.map.A b.map.A x.map _ _ _ (by omega) (Sl.below ha.map (by exact XA)) (Sl.below hb.map (by exact XA))).mono ?_;rintro e w0 ⟨rfl,hb0⟩;have r0:=Xz hb0;have l0:w.heap.size<w0.heap.size:=XO hb0;have m0:w.heap.size+1<w0.heap.size:=XO hb0;go_wp2_with (fail)
 refine (JO x.noise a.noise b.noise _ (by simp only [Xm];omega) (ZS.below ha.noise (by exact XA)) (ZS.below hb.noise (by exact XA))).mono ?_;rintro e w1 ⟨rfl,hb1⟩;have r1:=Xz hb1;have l1:w.heap.size<w1.heap.size:=XO hb1;have m1:w.heap.size+1<w1.heap.size:=XO hb1;go_wp2_with (fail)
 refine (JO x.limits a.limits b.limits _ (by simp only [Xm];omega) (ZS.below ha.limits (by exact XA)) (ZS.below hb.limits (by exact XA))).mono ?_;rintro e w2 ⟨rfl,hb2⟩;have r2:=Xz hb2;have l2:w.heap.size<w2.heap.size:=XO hb2;have m2:w.heap.size+1<w2.heap.size:=XO hb2;go_wp2
 go_ret
 refine ⟨rfl, ?_⟩;exact XA
theorem KZ (x:X3) (a:YO) (w:World) (hn:Xs x<=1048576) (hs:YH w x a) :
 Calls Tryz.prog 18 #[XN x a] w λ e w'=>∃ a',e=.returned (XN x a')/\Yq w' w.heap.size x a'/\Below w.heap.size w w':=by
 simp only [Xs] at hn;go_enter Tryz.func18,Tryz.ntmps18
 go_wp2_with (fail)
 refine (toIntS_c a.map.A x.map _ _ (by omega) (Sl.below hs.map (by exact XA))).mono ?_;rintro e w0 ⟨v0,rfl,N0,hb0⟩;obtain ⟨A0,k0,rfl,ho0⟩:=N0;have N0:XI 3 1 Y6 w0 _ (.slice A0 (List.length x.map) k0) x.map:=⟨A0,k0,rfl,ho0⟩;clear ho0;have K0:=N0.blk;replace N0:=N0.mono (base':=w.heap.size+1+1+1) (by first|(simp;done)|(simp;omega)|omega);have r0:=Xz hb0;have f0:=(bcell hb0).2;have l0:w.heap.size<w0.heap.size:=XO hb0;have m0:w.heap.size+1<w0.heap.size:=XO hb0;have n0:w.heap.size+1+1<w0.heap.size:=XO hb0;go_wp2_with (fail)
 refine (Kw x.noise a.noise _ (by simp only [Xm];omega) (ZS.below hs.noise (by exact XA))).mono ?_;rintro e w1 ⟨a1,rfl,N1,hb1⟩;have K1:=N1.blk;replace N1:=N1.mono (base':=w.heap.size+1+1+1) (by first|(simp;done)|(simp;omega)|omega);have r1:=Xz hb1;have f1:=(bcell hb1).2;have s1:w0.heap.size<=w1.heap.size:=by simpa using hb1.size
 have l1:w.heap.size<w1.heap.size:=XO hb1;have m1:w.heap.size+1<w1.heap.size:=XO hb1;have n1:w.heap.size+1+1<w1.heap.size:=XO hb1;go_wp2_with (fail)
 refine (Kw x.limits a.limits _ (by simp only [Xm];omega) (ZS.below hs.limits (by exact XA))).mono ?_;rintro e w2 ⟨a2,rfl,N2,hb2⟩;have K2:=N2.blk;replace N2:=N2.mono (base':=w.heap.size+1+1+1) (by first|(simp;done)|(simp;omega)|omega);have r2:=Xz hb2;have f2:=(bcell hb2).2;have s2:w1.heap.size<=w2.heap.size:=by simpa using hb2.size
 have l2:w.heap.size<w2.heap.size:=XO hb2;have m2:w.heap.size+1<w2.heap.size:=XO hb2;have n2:w.heap.size+1+1<w2.heap.size:=XO hb2;have H:YI w2 (w.heap.size+1) [.slice none 0 0,.int .i64 0,.int .i64 0,.int .i64 0,.int .i64 0,.int .i64 0,.slice none 0 0,.slice none 0 0]:=by
  exact Zp
 obtain ⟨cH_0,fH_0⟩:=H.2 0 _ rfl;obtain ⟨cH_1,fH_1⟩:=H.2 1 _ rfl;obtain ⟨cH_2,fH_2⟩:=H.2 2 _ rfl;obtain ⟨cH_3,fH_3⟩:=H.2 3 _ rfl;obtain ⟨cH_4,fH_4⟩:=H.2 4 _ rfl;obtain ⟨cH_5,fH_5⟩:=H.2 5 _ rfl;obtain ⟨cH_6,fH_6⟩:=H.2 6 _ rfl;obtain ⟨cH_7,fH_7⟩:=H.2 7 _ rfl;go_wp2
 refine bodyPost_ret (v:=XN x ⟨⟨A0,k0⟩,a1,a2⟩) (by simp [results,Tryz.results18,go_sem,cH_0,cH_1,cH_2,cH_3,cH_4,cH_5,cH_6,cH_7]) rfl ?_;refine ⟨⟨⟨A0,k0⟩,a1,a2⟩,rfl,⟨?_, ?_, ?_, ?_⟩, ?_⟩
 ·refine XI.mono (base:=w.heap.size+1+1+1) ?_ (by omega);repeat (first|(with_reducible exact N0)|(with_reducible refine XI.low ?_ (by first|(simp;done)|(simp;omega)|omega) _)|(with_reducible refine XI.below ?_ (by assumption) Xh))
 ·refine XT.mono (base:=w.heap.size+1+1+1) ?_ (by omega);repeat (first|(with_reducible exact N1)|(with_reducible refine XT.low ?_ (by first|(simp;done)|(simp;omega)|omega) _)|(with_reducible refine XT.below ?_ (by assumption) Xh))
 ·refine XT.mono (base:=w.heap.size+1+1+1) ?_ (by omega);repeat (first|(with_reducible exact N2)|(with_reducible refine XT.low ?_ (by first|(simp;done)|(simp;omega)|omega) _)|(with_reducible refine XT.below ?_ (by assumption) Xh))
 ·simp only [List.pairwise_cons,List.mem_cons,List.not_mem_nil,or_false,forall_eq_or_imp,forall_eq,false_implies,implies_true,List.Pairwise.nil,and_true];exact ⟨⟨Blk.apart (K0) (K1) (by first|(simp;done)|(simp;omega)|omega),Blk.apart (K0) (K2) (by first|(simp;done)|(simp;omega)|omega)⟩,Blk.apart (K1) (K2) (by first|(simp;done)|(simp;omega)|omega)⟩
 ·exact XA
end Go.Proofs.YtkjimfapbjdafaaGreat
