/-
 The functions on tables: what they return.
 Conditions: the slice of cells holds at most 2^20 ints.
-/
import Derived.Test.YtkjimfapbjdafaaGreatGrC
import Derived.Test.YtkjimfapbjdafaaGreatGrA
import Derived.StillTailTactics
section
namespace Go.Proofs.YtkjimfapbjdafaaGreat
open Go.RowKit
structure Tab where
 x0:Int
 y0:Int
 step:Int
 nx:Int
 ny:Int
 cells:List Int
def Tab.In (t:Tab):Prop:=Yd t.x0∧Yd t.y0∧Yd t.step∧Yd t.nx∧Yd t.ny
abbrev tabV (t:Tab) (A:Option Addr) (cap:Nat):Value:=.agg #[.int .i64 t.x0,.int .i64 t.y0,.int .i64 t.step,.int .i64 t.nx,.int .i64 t.ny,.slice A t.cells.length cap]
abbrev tabC (t:Tab) (A:Option Addr) (cap:Nat):List Value:=[.int .i64 t.x0,.int .i64 t.y0,.int .i64 t.step,.int .i64 t.nx,.int .i64 t.ny,.slice A t.cells.length cap]
def gridOk (t:Tab):Bool:=YC t.x0 (-1000) 1000&&YC t.y0 (-1000) 1000&&YC t.step 1 100&&YC t.nx 1 100&&YC t.ny 1 100&&decide (t.nx*t.ny≤400)&&decide (t.x0+t.nx*t.step≤1000)&&decide (t.y0+t.ny*t.step≤1000)
def cellOk (n:Int):Bool:=n == -1000000||YC n (-1000) 1000
def tableOk (t:Tab):Bool:=gridOk t&&decide ((t.cells.length:Int)=t.nx*t.ny)&&t.cells.all cellOk
end Go.Proofs.YtkjimfapbjdafaaGreat
end
section
namespace Go.Proofs.YtkjimfapbjdafaaGreat
open Go.RowKit
theorem XK.low {α:Type} {T sz:Nat} {enc:α→List Value} {w:World} {base:Nat} {v:Value} {xs:List α} (h:XK T sz enc w base v xs) {p:Addr} (hp:p.block<base) (u:Value):XK T sz enc (w.setCell p u) base v xs:=by
 obtain ⟨A,cap,rfl,ho⟩:=h
 exact ⟨A,cap,rfl,ownsRow_setCell_below ho hp u⟩
theorem szIntS_c (A:Option Addr) (n cap:Nat) (left:Int) (w:World) (hn:n≤9223372036854775807) (h0:0≤left) (h1:left≤1048576) :
 Calls Tryz.prog 81 #[.slice A n cap,.int .i64 left] w fun e w'=>e=.returned (.int .i64 (if left-n<0 then -1 else left-n))∧w=w':=by
 by_cases h:left-n<0
 all_goals
  go_enter Tryz.func81,Tryz.ntmps81
  go_wp2
  go_ret
  exact ⟨Yc (by simp),rfl⟩
set_option maxRecDepth 100000 in
theorem toIntS_c (A:Option Addr) (xs:List Int) (cap:Nat) (w:World) (hn:xs.length≤1048576) (hs:Sl 1 YW w A xs) :
 Calls Tryz.prog 62 #[.slice A xs.length cap] w fun e w'=>∃ v,e=.returned v∧XK 3 1 YW w' w.heap.size v xs∧Below w.heap.size w w':=by
 obtain ⟨i0,hi0,hz0,hz1,hz2⟩:=info_parts (show (Tryz.prog.info? 3).map (fun i=>(i.zero,i.size,i.bytes))=some (some (.int .i64 0),1,8) by kernel_rfl)
 have hmk:∀ W:World,(Instr.makeSlice 22 (.int .i64 (xs.length:Int)) (.int .i64 (xs.length:Int))).run Tryz.prog W=.ok (.slice (some ⟨W.heap.size,0,none⟩) xs.length xs.length) (W.alloc (.cells (madeCells #[.int .i64 0] xs.length) 3)):=by
  intro W
  have h:=run_make (P:=Tryz.prog) W 22 3 i0 _ Tryz.underlying22 hi0 hz0 .i64 .i64 (xs.length:Int) (xs.length:Int) (by omega) (by omega) (by rw [hz2];omega) (by omega)
  rw [hz1] at h
  simpa [Value.cells] using h
 go_enter Tryz.func62,Tryz.ntmps62
 go_wp2
 go_loopw [4] (fun i wr=>∃ k:Nat,k≤xs.length∧i=.int .i64 k∧YN 3 1 YW wr w.heap.size (xs.length*1) xs k∧Below w.heap.size w wr) (fun i _=>xs.length-(intOf i).toNat)
 case atStart=>exact ⟨0,Nat.zero_le _,rfl,YN.start (by simp [madeCells]) Xw,Xf bR _⟩
 case round =>
  obtain ⟨k,hk,rfl,hfill,hbw⟩:=hrel
  by_cases hlt:k<xs.length
  ·obtain ⟨b,off,rfl,hblt,hc⟩:=(hs.below hbw).at_ hlt
   have g0:=hc 0 _ rfl
   clear hc
   simp only [Nat.mul_one,Nat.add_zero] at g0
   obtain ⟨u0,c0⟩:=hfill.cell (m:=k) (by omega)
   have f0:=hfill.frozen k
   have hst:=hfill.stored Yq hlt (vs:=YW xs[k]) rfl
   have hst2:=Jn (Nat.le_refl w.heap.size) (YW xs[k]) (k*1) _ hbw
   rw [Nat.mul_one] at hst hst2
   generalize xs[k]=x at *
   go_wp2
   exact ⟨⟨k+1,by omega,by go_num,hst,hst2⟩,by simp [intOf];omega⟩
  ·obtain rfl:k=xs.length:=by omega
   go_wp2
   go_ret
   exact ⟨_,rfl,hfill.new Yq Xw (by unfold maxLen;omega),hbw⟩
set_option maxRecDepth 100000 in
theorem eqIntS_t (A B:Option Addr) (xs:List Int) (c d:Nat) (w:World) (hn:xs.length≤1048576) (ha:Sl 1 YW w A xs) (hb:Sl 1 YW w B xs) :
 Calls Tryz.prog 23 #[.slice A xs.length c,.slice B xs.length d] w fun e w'=>e=.returned (.bool true)∧Below w.heap.size w w':=by
 go_enter Tryz.func23,Tryz.ntmps23
 go_wp2
 go_loopw [5] (fun i wr=>∃ k:Nat,k≤xs.length∧i=.int .i64 k∧Below w.heap.size w wr) (fun i _=>xs.length-(intOf i).toNat)
 case atStart=>exact ⟨0,Nat.zero_le _,rfl,Below.refl _ _⟩
 case round =>
  obtain ⟨k,hk,rfl,hbw⟩:=hrel
  by_cases hlt:k<xs.length
  ·obtain ⟨b,off,rfl,hblt,hc⟩:=(ha.below hbw).at_ hlt
   obtain ⟨b',off',rfl,hblt',hc'⟩:=(hb.below hbw).at_ hlt
   have g0:=hc 0 _ rfl
   have g1:=hc' 0 _ rfl
   clear hc hc'
   simp only [Nat.mul_one,Nat.add_zero] at g0 g1
   generalize xs[k]=x at *
   have i1:(0:Int)≤(k:Int):=by omega
   have i2:(k:Int)<(xs.length:Int):=by omega
   go_wp2
   go_quiet (fail)
   go_wp2
   exact ⟨⟨k+1,by omega,by go_num,Yy hbw _⟩,by simp [intOf];omega⟩
  ·go_wp2
   go_ret
   exact ⟨rfl,hbw⟩
end Go.Proofs.YtkjimfapbjdafaaGreat
end
section
namespace Go.Proofs.YtkjimfapbjdafaaGreat
open Go.RowKit
structure Xv (w:World) (base:Nat) (x:List Half) (a:Zw):Prop where
 halves:XK 175 3 Xj w base (.slice a.A (List.length x) a.c) x
theorem Xv.sl {w:World} {base:Nat} {x:List Half} {a:Zw} (h:Xv w base x a):Y3 w x a:=⟨h.halves.out Xt⟩
theorem Xv.below {w w':World} {base B:Nat} {x:List Half} {a:Zw} (h:Xv w base x a) (hb:Below B w w') (hB:w.heap.size≤B):Xv w' base x a:=⟨h.halves.below hb hB⟩
theorem Xv.mono {w:World} {base base':Nat} {x:List Half} {a:Zw} (h:Xv w base x a) (hb:base'≤base):Xv w base' x a:=⟨h.halves.mono hb⟩
theorem Xv.low {w:World} {base:Nat} {x:List Half} {a:Zw} (h:Xv w base x a) {p:Addr} (hp:p.block<base) (u:Value):Xv (w.setCell p u) base x a:=⟨h.halves.low hp u⟩
theorem Xv.blk {w:World} {base:Nat} {x:List Half} {a:Zw} (h:Xv w base x a):Blk base w.heap.size a:=h.halves.blk
structure XR (w:World) (base:Nat) (x:XJ) (a:Ye):Prop where
 map:XK 3 1 YW w base (.slice a.map.A (List.length x.map) a.map.c) x.map
 noise:Xv w base x.noise a.noise
 limits:Xv w base x.limits a.limits
 apart:List.Pairwise Z9 [a.map,a.noise,a.limits]
theorem XR.sl {w:World} {base:Nat} {x:XJ} {a:Ye} (h:XR w base x a):Yh w x a:=⟨h.map.out Yq,h.noise.sl,h.limits.sl⟩
theorem XR.below {w w':World} {base B:Nat} {x:XJ} {a:Ye} (h:XR w base x a) (hb:Below B w w') (hB:w.heap.size≤B):XR w' base x a:=⟨h.map.below hb hB,h.noise.below hb hB,h.limits.below hb hB,h.apart⟩
theorem XR.mono {w:World} {base base':Nat} {x:XJ} {a:Ye} (h:XR w base x a) (hb:base'≤base):XR w base' x a:=⟨h.map.mono hb,h.noise.mono hb,h.limits.mono hb,h.apart⟩
theorem XR.low {w:World} {base:Nat} {x:XJ} {a:Ye} (h:XR w base x a) {p:Addr} (hp:p.block<base) (u:Value):XR (w.setCell p u) base x a:=⟨h.map.low hp u,h.noise.low hp u,h.limits.low hp u,h.apart⟩
theorem XR.blk {w:World} {base:Nat} {x:XJ} {a:Ye} (h:XR w base x a):Blk base w.heap.size a.map∧Blk base w.heap.size a.noise∧Blk base w.heap.size a.limits:=⟨h.map.blk,h.noise.blk,h.limits.blk⟩
structure Yz (w:World) (base:Nat) (x:K6) (a:KI):Prop where
 room:XR w base x.room a.room
 reg:Xv w base x.reg a.reg
 log:XK 3 1 YW w base (.slice a.log.A (List.length x.log) a.log.c) x.log
 apart:List.Pairwise Z9 [a.room.map,a.room.noise,a.room.limits,a.reg,a.log]
theorem Yz.sl {w:World} {base:Nat} {x:K6} {a:KI} (h:Yz w base x a):WatchSl w x a:=⟨h.room.sl,h.reg.sl,h.log.out Yq⟩
theorem Yz.below {w w':World} {base B:Nat} {x:K6} {a:KI} (h:Yz w base x a) (hb:Below B w w') (hB:w.heap.size≤B):Yz w' base x a:=⟨h.room.below hb hB,h.reg.below hb hB,h.log.below hb hB,h.apart⟩
theorem Yz.mono {w:World} {base base':Nat} {x:K6} {a:KI} (h:Yz w base x a) (hb:base'≤base):Yz w base' x a:=⟨h.room.mono hb,h.reg.mono hb,h.log.mono hb,h.apart⟩
theorem Yz.low {w:World} {base:Nat} {x:K6} {a:KI} (h:Yz w base x a) {p:Addr} (hp:p.block<base) (u:Value):Yz (w.setCell p u) base x a:=⟨h.room.low hp u,h.reg.low hp u,h.log.low hp u,h.apart⟩
theorem Yz.blk {w:World} {base:Nat} {x:K6} {a:KI} (h:Yz w base x a):Blk base w.heap.size a.room.map∧Blk base w.heap.size a.room.noise∧Blk base w.heap.size a.room.limits∧Blk base w.heap.size a.reg∧Blk base w.heap.size a.log:=⟨h.room.blk.1,h.room.blk.2.1,h.room.blk.2.2,h.reg.blk,h.log.blk⟩
structure YA (w:World) (base:Nat) (x:Jo) (a:KJ):Prop where
 spots:XK 44 3 spotC w base (.slice a.spots.A (List.length x.spots) a.spots.c) x.spots
 inputs:XK 70 2 ratioC w base (.slice a.inputs.A (List.length x.inputs) a.inputs.c) x.inputs
 apart:List.Pairwise Z9 [a.spots,a.inputs]
theorem YA.sl {w:World} {base:Nat} {x:Jo} {a:KJ} (h:YA w base x a):TrackSl w x a:=⟨h.spots.out Jb,h.inputs.out ratioC_len⟩
theorem YA.below {w w':World} {base B:Nat} {x:Jo} {a:KJ} (h:YA w base x a) (hb:Below B w w') (hB:w.heap.size≤B):YA w' base x a:=⟨h.spots.below hb hB,h.inputs.below hb hB,h.apart⟩
theorem YA.mono {w:World} {base base':Nat} {x:Jo} {a:KJ} (h:YA w base x a) (hb:base'≤base):YA w base' x a:=⟨h.spots.mono hb,h.inputs.mono hb,h.apart⟩
theorem YA.low {w:World} {base:Nat} {x:Jo} {a:KJ} (h:YA w base x a) {p:Addr} (hp:p.block<base) (u:Value):YA (w.setCell p u) base x a:=⟨h.spots.low hp u,h.inputs.low hp u,h.apart⟩
theorem YA.blk {w:World} {base:Nat} {x:Jo} {a:KJ} (h:YA w base x a):Blk base w.heap.size a.spots∧Blk base w.heap.size a.inputs:=⟨h.spots.blk,h.inputs.blk⟩
structure Zz (w:World) (base:Nat) (x:Law) (a:LawA):Prop where
 lows:XK 171 4 pieceC w base (.slice a.lows.A (List.length x.lows) a.lows.c) x.lows
 highs:XK 171 4 pieceC w base (.slice a.highs.A (List.length x.highs) a.highs.c) x.highs
 apart:List.Pairwise Z9 [a.lows,a.highs]
theorem Zz.sl {w:World} {base:Nat} {x:Law} {a:LawA} (h:Zz w base x a):LawSl w x a:=⟨h.lows.out pieceC_len,h.highs.out pieceC_len⟩
theorem Zz.below {w w':World} {base B:Nat} {x:Law} {a:LawA} (h:Zz w base x a) (hb:Below B w w') (hB:w.heap.size≤B):Zz w' base x a:=⟨h.lows.below hb hB,h.highs.below hb hB,h.apart⟩
theorem Zz.mono {w:World} {base base':Nat} {x:Law} {a:LawA} (h:Zz w base x a) (hb:base'≤base):Zz w base' x a:=⟨h.lows.mono hb,h.highs.mono hb,h.apart⟩
theorem Zz.low {w:World} {base:Nat} {x:Law} {a:LawA} (h:Zz w base x a) {p:Addr} (hp:p.block<base) (u:Value):Zz (w.setCell p u) base x a:=⟨h.lows.low hp u,h.highs.low hp u,h.apart⟩
theorem Zz.blk {w:World} {base:Nat} {x:Law} {a:LawA} (h:Zz w base x a):Blk base w.heap.size a.lows∧Blk base w.heap.size a.highs:=⟨h.lows.blk,h.highs.blk⟩
end Go.Proofs.YtkjimfapbjdafaaGreat
end
section
namespace Go.Proofs.YtkjimfapbjdafaaGreat
open Go.RowKit
theorem toSpot_c (x:XC) (w:World) :
 Calls Tryz.prog 21 #[Zi x] w fun e w'=>e=.returned (Zi x)∧Below w.heap.size w w':=by
 go_enter Tryz.func21,Tryz.ntmps21
 go_wp2
 refine bodyPost_ret (v:=.agg #[.int .i64 x.x,.int .i64 x.y,.int .i64 x.d]) (by simp [results,Tryz.results21,go_sem]) rfl ⟨rfl, ?_⟩
 exact Xg
theorem toHalf_c (x:Half) (w:World) :
 Calls Tryz.prog 161 #[YX x] w fun e w'=>e=.returned (YX x)∧Below w.heap.size w w':=by
 go_enter Tryz.func161,Tryz.ntmps161
 go_wp2
 refine bodyPost_ret (v:=.agg #[.int .i64 x.a,.int .i64 x.b,.int .i64 x.c]) (by simp [results,Tryz.results161,go_sem]) rfl ⟨rfl, ?_⟩
 exact Xg
theorem eqHalf_t (x:Half) (w:World) :
 Calls Tryz.prog 164 #[YX x,YX x] w fun e w'=>e=.returned (.bool true)∧Below w.heap.size w w':=by
 go_enter Tryz.func164,Tryz.ntmps164
 go_wp2
 go_ret
 refine ⟨rfl, ?_⟩
 exact Xg
theorem toMode_c (x:Zo) (w:World) :
 Calls Tryz.prog 86 #[modeV x] w fun e w'=>e=.returned (modeV x)∧Below w.heap.size w w':=by
 go_enter Tryz.func86,Tryz.ntmps86
 go_wp2
 refine bodyPost_ret (v:=.agg #[.int .i64 x.low,.int .i64 x.high]) (by simp [results,Tryz.results86,go_sem]) rfl ⟨rfl, ?_⟩
 exact Xg
theorem eqMode_t (x:Zo) (w:World) :
 Calls Tryz.prog 91 #[modeV x,modeV x] w fun e w'=>e=.returned (.bool true)∧Below w.heap.size w w':=by
 go_enter Tryz.func91,Tryz.ntmps91
 go_wp2
 go_ret
 refine ⟨rfl, ?_⟩
 exact Xg
end Go.Proofs.YtkjimfapbjdafaaGreat
end
section
namespace Go.Proofs.YtkjimfapbjdafaaGreat
open Go.RowKit
theorem szHalfS_c (A:Option Addr) (n cap:Nat) (left:Int) (w:World) (hn:n≤9223372036854775807) (h0:0≤left) (h1:left≤1048576) :
 Calls Tryz.prog 82 #[.slice A n cap,.int .i64 left] w fun e w'=>e=.returned (.int .i64 (if left-n<0 then -1 else left-n))∧w=w':=by
 by_cases h:left-n<0
 all_goals
  go_enter Tryz.func82,Tryz.ntmps82
  go_wp2
  go_ret
  exact ⟨Yc (by simp),rfl⟩
set_option maxRecDepth 100000 in
theorem eqHalfS_t (A B:Option Addr) (xs:List Half) (c d:Nat) (w:World) (hn:xs.length≤1048576) (ha:Sl 3 Xj w A xs) (hb:Sl 3 Xj w B xs) :
 Calls Tryz.prog 92 #[.slice A xs.length c,.slice B xs.length d] w fun e w'=>e=.returned (.bool true)∧Below w.heap.size w w':=by
 go_enter Tryz.func92,Tryz.ntmps92
 go_wp2
 go_loopw [5] (fun i wr=>∃ k:Nat,k≤xs.length∧i=.int .i64 k∧Below w.heap.size w wr) (fun i _=>xs.length-(intOf i).toNat)
 case atStart=>exact ⟨0,Nat.zero_le _,rfl,Below.refl _ _⟩
 case round =>
  obtain ⟨k,hk,rfl,hbw⟩:=hrel
  by_cases hlt:k<xs.length
  ·obtain ⟨b,off,rfl,hblt,hc⟩:=(ha.below hbw).at_ hlt
   obtain ⟨b',off',rfl,hblt',hc'⟩:=(hb.below hbw).at_ hlt
   have g0:=hc 0 _ rfl
   have g1:=hc 1 _ rfl
   have g2:=hc 2 _ rfl
   have g0':=hc' 0 _ rfl
   have g1':=hc' 1 _ rfl
   have g2':=hc' 2 _ rfl
   clear hc hc'
   simp only [Nat.add_zero] at g0 g0'
   generalize xs[k]=x at *
   go_wp2
   go_still_tail 8,(by kernel_rfl)
   change wpList _ _ _ _ _ wr.drew
   generalize hwr:wr.drew=w2
   have hb2:Below w.heap.size w w2:=by rw [← hwr];exact hbw.drew
   clear hwr
   go_wp2_with (fail)
   refine (eqHalf_t x _).mono ?_
   rintro e w1 ⟨rfl,hb1⟩
   go_wp2
   go_roundw
   case rel=>exact ⟨k+1,by omega,by go_num,hb2.trans (hb1.mono hb2.size)⟩
   case measure=>simp [intOf];omega
  ·go_wp2
   go_ret
   exact ⟨rfl,hbw⟩
set_option maxRecDepth 100000 in
theorem toHalfS_c (A:Option Addr) (xs:List Half) (cap:Nat) (w:World) (hn:xs.length≤1048576) (hs:Sl 3 Xj w A xs) :
 Calls Tryz.prog 87 #[.slice A xs.length cap] w fun e w'=>∃ v,e=.returned v∧XK 175 3 Xj w' w.heap.size v xs∧Below w.heap.size w w':=by
 obtain ⟨i0,hi0,hz0,hz1,hz2⟩:=info_parts (show (Tryz.prog.info? 175).map (fun i=>(i.zero,i.size,i.bytes))=some (some (.agg #[.int .i64 0,.int .i64 0,.int .i64 0]),3,24) by kernel_rfl)
 have hmk:∀ W:World,(Instr.makeSlice 35 (.int .i64 (xs.length:Int)) (.int .i64 (xs.length:Int))).run Tryz.prog W=.ok (.slice (some ⟨W.heap.size,0,none⟩) xs.length xs.length) (W.alloc (.cells (madeCells #[.int .i64 0,.int .i64 0,.int .i64 0] (xs.length*3)) 175)):=by
  intro W
  have h:=run_make (P:=Tryz.prog) W 35 175 i0 _ Tryz.underlying35 hi0 hz0 .i64 .i64 (xs.length:Int) (xs.length:Int) (by omega) (by omega) (by rw [hz2];omega) (by omega)
  rw [hz1] at h
  simpa [Value.cells] using h
 go_enter Tryz.func87,Tryz.ntmps87
 go_wp2
 go_loopw [4] (fun i wr=>∃ k:Nat,k≤xs.length∧i=.int .i64 k∧YN 175 3 Xj wr w.heap.size (xs.length*3) xs k∧Below w.heap.size w wr) (fun i _=>xs.length-(intOf i).toNat)
 case atStart=>exact ⟨0,Nat.zero_le _,rfl,YN.start (by simp [madeCells]) Xw,Xf bR _⟩
 case round =>
  obtain ⟨k,hk,rfl,hfill,hbw⟩:=hrel
  by_cases hlt:k<xs.length
  ·obtain ⟨b,off,rfl,hblt,hc⟩:=(hs.below hbw).at_ hlt
   have g0:=hc 0 _ rfl
   have g1:=hc 1 _ rfl
   have g2:=hc 2 _ rfl
   clear hc
   simp only [Nat.add_zero] at g0
   have hx:xs[k]=xs[k]:=rfl
   generalize hxx:xs[k]=x at *
   have HX:=Lib.hid hxx
   clear hxx hx
   go_wp2_with (fail)
   refine (toHalf_c x _).mono ?_
   rintro e w1 ⟨rfl,hb1⟩
   have hfill1:=hfill.below hb1
   have hbw1:=Xb hbw hb1
   have hm:=Nat.mul_le_mul_right 3 hlt
   obtain ⟨u0,c0⟩:=hfill1.cell (m:=k*3) (by omega)
   have f0:=hfill1.frozen (k*3)
   obtain ⟨u1,c1⟩:=hfill1.cell (m:=k*3+1) (by omega)
   have f1:=hfill1.frozen (k*3+1)
   obtain ⟨u2,c2⟩:=hfill1.cell (m:=k*3+2) (by omega)
   have f2:=hfill1.frozen (k*3+2)
   clear hm
   have hst:=hfill1.stored Xt hlt (vs:=Xj x) (by rw [HX.out])
   have hst2:=Jn (Nat.le_refl w.heap.size) (Xj x) (k*3) _ hbw1
   go_wp2
   exact ⟨⟨k+1,by omega,by go_num,hst,hst2⟩,by simp [intOf];omega⟩
  ·obtain rfl:k=xs.length:=by omega
   go_wp2
   go_ret
   exact ⟨_,rfl,hfill.new Xt Xw (by unfold maxLen;omega),hbw⟩
theorem szModeS_c (A:Option Addr) (n cap:Nat) (left:Int) (w:World) (hn:n≤9223372036854775807) (h0:0≤left) (h1:left≤1048576) :
 Calls Tryz.prog 15 #[.slice A n cap,.int .i64 left] w fun e w'=>e=.returned (.int .i64 (if left-n<0 then -1 else left-n))∧w=w':=by
 by_cases h:left-n<0
 all_goals
  go_enter Tryz.func15,Tryz.ntmps15
  go_wp2
  go_ret
  exact ⟨Yc (by simp),rfl⟩
set_option maxRecDepth 100000 in
theorem eqModeS_t (A B:Option Addr) (xs:List Zo) (c d:Nat) (w:World) (hn:xs.length≤1048576) (ha:Sl 2 Zy w A xs) (hb:Sl 2 Zy w B xs) :
 Calls Tryz.prog 25 #[.slice A xs.length c,.slice B xs.length d] w fun e w'=>e=.returned (.bool true)∧Below w.heap.size w w':=by
 go_enter Tryz.func25,Tryz.ntmps25
 go_wp2
 go_loopw [5] (fun i wr=>∃ k:Nat,k≤xs.length∧i=.int .i64 k∧Below w.heap.size w wr) (fun i _=>xs.length-(intOf i).toNat)
 case atStart=>exact ⟨0,Nat.zero_le _,rfl,Below.refl _ _⟩
 case round =>
  obtain ⟨k,hk,rfl,hbw⟩:=hrel
  by_cases hlt:k<xs.length
  ·obtain ⟨b,off,rfl,hblt,hc⟩:=(ha.below hbw).at_ hlt
   obtain ⟨b',off',rfl,hblt',hc'⟩:=(hb.below hbw).at_ hlt
   have g0:=hc 0 _ rfl
   have g1:=hc 1 _ rfl
   have g0':=hc' 0 _ rfl
   have g1':=hc' 1 _ rfl
   clear hc hc'
   simp only [Nat.add_zero] at g0 g0'
   generalize xs[k]=x at *
   go_wp2
   go_still_tail 8,(by kernel_rfl)
   change wpList _ _ _ _ _ wr.drew
   generalize hwr:wr.drew=w2
   have hb2:Below w.heap.size w w2:=by rw [← hwr];exact hbw.drew
   clear hwr
   go_wp2_with (fail)
   refine (eqMode_t x _).mono ?_
   rintro e w1 ⟨rfl,hb1⟩
   go_wp2
   go_roundw
   case rel=>exact ⟨k+1,by omega,by go_num,hb2.trans (hb1.mono hb2.size)⟩
   case measure=>simp [intOf];omega
  ·go_wp2
   go_ret
   exact ⟨rfl,hbw⟩
set_option maxRecDepth 100000 in
theorem toModeS_c (A:Option Addr) (xs:List Zo) (cap:Nat) (w:World) (hn:xs.length≤1048576) (hs:Sl 2 Zy w A xs) :
 Calls Tryz.prog 19 #[.slice A xs.length cap] w fun e w'=>∃ v,e=.returned v∧XK 132 2 Zy w' w.heap.size v xs∧Below w.heap.size w w':=by
 obtain ⟨i0,hi0,hz0,hz1,hz2⟩:=info_parts (show (Tryz.prog.info? 132).map (fun i=>(i.zero,i.size,i.bytes))=some (some (.agg #[.int .i64 0,.int .i64 0]),2,16) by kernel_rfl)
 have hmk:∀ W:World,(Instr.makeSlice 41 (.int .i64 (xs.length:Int)) (.int .i64 (xs.length:Int))).run Tryz.prog W=.ok (.slice (some ⟨W.heap.size,0,none⟩) xs.length xs.length) (W.alloc (.cells (madeCells #[.int .i64 0,.int .i64 0] (xs.length*2)) 132)):=by
  intro W
  have h:=run_make (P:=Tryz.prog) W 41 132 i0 _ Tryz.underlying41 hi0 hz0 .i64 .i64 (xs.length:Int) (xs.length:Int) (by omega) (by omega) (by rw [hz2];omega) (by omega)
  rw [hz1] at h
  simpa [Value.cells] using h
 go_enter Tryz.func19,Tryz.ntmps19
 go_wp2
 go_loopw [4] (fun i wr=>∃ k:Nat,k≤xs.length∧i=.int .i64 k∧YN 132 2 Zy wr w.heap.size (xs.length*2) xs k∧Below w.heap.size w wr) (fun i _=>xs.length-(intOf i).toNat)
 case atStart=>exact ⟨0,Nat.zero_le _,rfl,YN.start (by simp [madeCells]) Xw,Xf bR _⟩
 case round =>
  obtain ⟨k,hk,rfl,hfill,hbw⟩:=hrel
  by_cases hlt:k<xs.length
  ·obtain ⟨b,off,rfl,hblt,hc⟩:=(hs.below hbw).at_ hlt
   have g0:=hc 0 _ rfl
   have g1:=hc 1 _ rfl
   clear hc
   simp only [Nat.add_zero] at g0
   have hx:xs[k]=xs[k]:=rfl
   generalize hxx:xs[k]=x at *
   have HX:=Lib.hid hxx
   clear hxx hx
   go_wp2_with (fail)
   refine (toMode_c x _).mono ?_
   rintro e w1 ⟨rfl,hb1⟩
   have hfill1:=hfill.below hb1
   have hbw1:=Xb hbw hb1
   have hm:=Nat.mul_le_mul_right 2 hlt
   obtain ⟨u0,c0⟩:=hfill1.cell (m:=k*2) (by omega)
   have f0:=hfill1.frozen (k*2)
   obtain ⟨u1,c1⟩:=hfill1.cell (m:=k*2+1) (by omega)
   have f1:=hfill1.frozen (k*2+1)
   clear hm
   have hst:=hfill1.stored Kb hlt (vs:=Zy x) (by rw [HX.out])
   have hst2:=Jn (Nat.le_refl w.heap.size) (Zy x) (k*2) _ hbw1
   go_wp2
   exact ⟨⟨k+1,by omega,by go_num,hst,hst2⟩,by simp [intOf];omega⟩
  ·obtain rfl:k=xs.length:=by omega
   go_wp2
   go_ret
   exact ⟨_,rfl,hfill.new Kb Xw (by unfold maxLen;omega),hbw⟩
end Go.Proofs.YtkjimfapbjdafaaGreat
end
section
namespace Go.Proofs.YtkjimfapbjdafaaGreat
open Go.RowKit
set_option maxRecDepth 100000 in
set_option maxHeartbeats 1000000 in
theorem Ki (x:List Half) (a:Zw) (left:Int) (w:World) (hn:List.length x≤9223372036854775807) (h0:0≤left) (h1:left≤1048576) :
 Calls Tryz.prog 16 #[X5 x a,.int .i64 left] w fun e w'=>e=.returned (.int .i64 (if left-Xn x<0 then -1 else left-Xn x))∧Below w.heap.size w w':=by
 have hn0:=hn
 have hlen:Hid (((Xn x:Nat):Int)=((List.length x:Nat):Int)):=by show _=_;simp only [Xn];(try omega)
 have p0:(0:Int)≤((List.length x:Nat):Int):=by omega
 by_cases c0:left-((List.length x:Nat):Int)<0
 ·skip
  have hfin:(if left-((Xn x:Nat):Int)<0 then (-1:Int) else left-((Xn x:Nat):Int)) = -1:=by have:=hlen.out;rw [if_pos (by omega)]
  rw [hfin]
  clear hfin
  go_enter Tryz.func16,Tryz.ntmps16
  go_wp2_with (fail)
  refine (szHalfS_c a.A (List.length x) a.c (left) _ hn0 (by omega) (by omega)).mono ?_
  rw [if_pos (by omega)]
  rintro e w' ⟨rfl,rfl⟩
  go_wp2
  go_ret
  refine ⟨rfl, ?_⟩
  exact Xg
 ·skip
  have hfin:(if left-((Xn x:Nat):Int)<0 then (-1:Int) else left-((Xn x:Nat):Int))=left-((List.length x:Nat):Int):=by have:=hlen.out;(rw [if_neg (by omega)];omega)
  rw [hfin]
  clear hfin
  go_enter Tryz.func16,Tryz.ntmps16
  go_wp2_with (fail)
  refine (szHalfS_c a.A (List.length x) a.c (left) _ hn0 (by omega) (by omega)).mono ?_
  rw [if_neg (by omega)]
  rintro e w' ⟨rfl,rfl⟩
  go_wp2
  go_ret
  refine ⟨rfl, ?_⟩
  exact Xg
set_option maxRecDepth 100000 in
set_option maxHeartbeats 1000000 in
theorem eqRegion_t (x:List Half) (a b:Zw) (w:World) (hn:Xn x≤1048576) (ha:Y3 w x a) (hb:Y3 w x b) :
 Calls Tryz.prog 26 #[X5 x a,X5 x b] w fun e w'=>e=.returned (.bool true)∧Below w.heap.size w w':=by
 simp only [Xn] at hn
 go_enter Tryz.func26,Tryz.ntmps26
 go_wp2_with (fail)
 refine (eqHalfS_t a.A b.A x _ _ _ (by omega) (Sl.below ha.halves (by exact Xg)) (Sl.below hb.halves (by exact Xg))).mono ?_
 rintro e w0 ⟨rfl,hb0⟩
 have r0:=Xd hb0
 have l0:w.heap.size<w0.heap.size:=blt hb0 (by first|(simp;done)|(simp;omega)|omega)
 have m0:w.heap.size+1<w0.heap.size:=blt hb0 (by first|(simp;done)|(simp;omega)|omega)
 go_wp2
 go_ret
 refine ⟨rfl, ?_⟩
 exact Xg
set_option maxRecDepth 100000 in
set_option maxHeartbeats 2000000 in
theorem Kz (x:List Half) (a:Zw) (w:World) (hn:Xn x≤1048576) (hs:Y3 w x a) :
 Calls Tryz.prog 20 #[X5 x a] w fun e w'=>∃ a',e=.returned (X5 x a')∧Xv w' w.heap.size x a'∧Below w.heap.size w w':=by
 simp only [Xn] at hn
 go_enter Tryz.func20,Tryz.ntmps20
 go_wp2_with (fail)
 refine (toHalfS_c a.A x _ _ (by omega) (Sl.below hs.halves (by exact Xg))).mono ?_
 rintro e w0 ⟨v0,rfl,N0,hb0⟩
 obtain ⟨A0,k0,rfl,ho0⟩:=N0
 have N0:XK 175 3 Xj w0 _ (.slice A0 (List.length x) k0) x:=⟨A0,k0,rfl,ho0⟩
 clear ho0
 have K0:=N0.blk
 replace N0:=N0.mono (base':=w.heap.size+1+1+1) (by first|(simp;done)|(simp;omega)|omega)
 have r0:=Xd hb0
 have f0:=(bcell hb0).2
 have l0:w.heap.size<w0.heap.size:=blt hb0 (by first|(simp;done)|(simp;omega)|omega)
 have m0:w.heap.size+1<w0.heap.size:=blt hb0 (by first|(simp;done)|(simp;omega)|omega)
 have n0:w.heap.size+1+1<w0.heap.size:=blt hb0 (by first|(simp;done)|(simp;omega)|omega)
 have H:XG w0 (w.heap.size+1) [.slice none 0 0]:=by
  exact Ya
 obtain ⟨cH_0,fH_0⟩:=H.2 0 _ rfl
 go_wp2
 refine bodyPost_ret (v:=X5 x ⟨A0,k0⟩) (by simp [results,Tryz.results20,go_sem,cH_0]) rfl ?_
 refine ⟨⟨A0,k0⟩,rfl,⟨?_⟩, ?_⟩
 ·refine XK.mono (base:=w.heap.size+1+1+1) ?_ (by omega)
  repeat (first|(with_reducible exact N0)|(with_reducible refine XK.low ?_ (by first|(simp;done)|(simp;omega)|omega) _)|(with_reducible refine XK.below ?_ (by assumption) Xw))
 ·exact Xg
set_option maxRecDepth 100000 in
set_option maxHeartbeats 1000000 in
theorem szRoom_c (x:XJ) (a:Ye) (left:Int) (w:World) (hn:List.length x.map≤9223372036854775807∧List.length x.noise≤9223372036854775807∧List.length x.limits≤9223372036854775807) (h0:0≤left) (h1:left≤1048576) :
 Calls Tryz.prog 14 #[XY x a,.int .i64 left] w fun e w'=>e=.returned (.int .i64 (if left-Xp x<0 then -1 else left-Xp x))∧Below w.heap.size w w':=by
 obtain ⟨hn0,Jw,hn2⟩:=hn
 have hlen:Hid (((Xp x:Nat):Int)=((List.length x.map:Nat):Int)+((Xn x.noise:Nat):Int)+((Xn x.limits:Nat):Int)):=by show _=_;simp only [Xn,Xp];(try omega)
 have p0:(0:Int)≤((List.length x.map:Nat):Int):=by omega
 have p1:(0:Int)≤((Xn x.noise:Nat):Int):=by omega
 have p2:(0:Int)≤((Xn x.limits:Nat):Int):=by omega
 by_cases c0:left-((List.length x.map:Nat):Int)<0
 ·skip
  have hfin:(if left-((Xp x:Nat):Int)<0 then (-1:Int) else left-((Xp x:Nat):Int)) = -1:=by have:=hlen.out;rw [if_pos (by omega)]
  rw [hfin]
  clear hfin
  go_enter Tryz.func14,Tryz.ntmps14
  go_wp2_with (fail)
  refine (szIntS_c a.map.A (List.length x.map) a.map.c (left) _ hn0 (by omega) (by omega)).mono ?_
  rw [if_pos (by omega)]
  rintro e w' ⟨rfl,rfl⟩
  go_wp2
  go_ret
  refine ⟨rfl, ?_⟩
  exact Xg
 ·skip
  by_cases c1:left-((List.length x.map:Nat):Int)-((Xn x.noise:Nat):Int)<0
  ·skip
   have hfin:(if left-((Xp x:Nat):Int)<0 then (-1:Int) else left-((Xp x:Nat):Int)) = -1:=by have:=hlen.out;rw [if_pos (by omega)]
   rw [hfin]
   clear hfin
   go_enter Tryz.func14,Tryz.ntmps14
   go_wp2_with (fail)
   refine (szIntS_c a.map.A (List.length x.map) a.map.c (left) _ hn0 (by omega) (by omega)).mono ?_
   rw [if_neg (by omega)]
   rintro e w' ⟨rfl,rfl⟩
   go_wp2_with (fail)
   refine (Ki x.noise a.noise (left-((List.length x.map:Nat):Int)) _ Jw (by omega) (by omega)).mono ?_
   rw [if_pos (by omega)]
   rintro e w1 ⟨rfl,hb1⟩
   have r1:=Xd hb1
   have l1:w.heap.size<w1.heap.size:=blt hb1 (by first|(simp;done)|(simp;omega)|omega)
   go_wp2
   go_ret
   refine ⟨rfl, ?_⟩
   exact Xg
  ·skip
   by_cases c2:left-((List.length x.map:Nat):Int)-((Xn x.noise:Nat):Int)-((Xn x.limits:Nat):Int)<0
   ·skip
    have hfin:(if left-((Xp x:Nat):Int)<0 then (-1:Int) else left-((Xp x:Nat):Int)) = -1:=by have:=hlen.out;rw [if_pos (by omega)]
    rw [hfin]
    clear hfin
    go_enter Tryz.func14,Tryz.ntmps14
    go_wp2_with (fail)
    refine (szIntS_c a.map.A (List.length x.map) a.map.c (left) _ hn0 (by omega) (by omega)).mono ?_
    rw [if_neg (by omega)]
    rintro e w' ⟨rfl,rfl⟩
    go_wp2_with (fail)
    refine (Ki x.noise a.noise (left-((List.length x.map:Nat):Int)) _ Jw (by omega) (by omega)).mono ?_
    rw [if_neg (by omega)]
    rintro e w1 ⟨rfl,hb1⟩
    have r1:=Xd hb1
    have l1:w.heap.size<w1.heap.size:=blt hb1 (by first|(simp;done)|(simp;omega)|omega)
    go_wp2_with (fail)
    refine (Ki x.limits a.limits (left-((List.length x.map:Nat):Int)-((Xn x.noise:Nat):Int)) _ hn2 (by omega) (by omega)).mono ?_
    rw [if_pos (by omega)]
    rintro e w2 ⟨rfl,hb2⟩
    have r2:=Xd hb2
    have l2:w.heap.size<w2.heap.size:=blt hb2 (by first|(simp;done)|(simp;omega)|omega)
    go_wp2
    go_ret
    refine ⟨rfl, ?_⟩
    exact Xg
   ·skip
    have hfin:(if left-((Xp x:Nat):Int)<0 then (-1:Int) else left-((Xp x:Nat):Int))=left-((List.length x.map:Nat):Int)-((Xn x.noise:Nat):Int)-((Xn x.limits:Nat):Int):=by have:=hlen.out;(rw [if_neg (by omega)];omega)
    rw [hfin]
    clear hfin
    go_enter Tryz.func14,Tryz.ntmps14
    go_wp2_with (fail)
    refine (szIntS_c a.map.A (List.length x.map) a.map.c (left) _ hn0 (by omega) (by omega)).mono ?_
    rw [if_neg (by omega)]
    rintro e w' ⟨rfl,rfl⟩
    go_wp2_with (fail)
    refine (Ki x.noise a.noise (left-((List.length x.map:Nat):Int)) _ Jw (by omega) (by omega)).mono ?_
    rw [if_neg (by omega)]
    rintro e w1 ⟨rfl,hb1⟩
    have r1:=Xd hb1
    have l1:w.heap.size<w1.heap.size:=blt hb1 (by first|(simp;done)|(simp;omega)|omega)
    go_wp2_with (fail)
    refine (Ki x.limits a.limits (left-((List.length x.map:Nat):Int)-((Xn x.noise:Nat):Int)) _ hn2 (by omega) (by omega)).mono ?_
    rw [if_neg (by omega)]
    rintro e w2 ⟨rfl,hb2⟩
    have r2:=Xd hb2
    have l2:w.heap.size<w2.heap.size:=blt hb2 (by first|(simp;done)|(simp;omega)|omega)
    go_wp2
    go_ret
    refine ⟨rfl, ?_⟩
    exact Xg
set_option maxRecDepth 100000 in
set_option maxHeartbeats 1000000 in
theorem eqRoom_t (x:XJ) (a b:Ye) (w:World) (hn:Xp x≤1048576) (ha:Yh w x a) (hb:Yh w x b) :
 Calls Tryz.prog 24 #[XY x a,XY x b] w fun e w'=>e=.returned (.bool true)∧Below w.heap.size w w':=by
 simp only [Xp] at hn
 go_enter Tryz.func24,Tryz.ntmps24
 go_wp2_with (fail)
 refine (eqIntS_t a.map.A b.map.A x.map _ _ _ (by omega) (Sl.below ha.map (by exact Xg)) (Sl.below hb.map (by exact Xg))).mono ?_
 rintro e w0 ⟨rfl,hb0⟩
 have r0:=Xd hb0
 have l0:w.heap.size<w0.heap.size:=blt hb0 (by first|(simp;done)|(simp;omega)|omega)
 have m0:w.heap.size+1<w0.heap.size:=blt hb0 (by first|(simp;done)|(simp;omega)|omega)
 go_wp2_with (fail)
 refine (eqRegion_t x.noise a.noise b.noise _ (by simp only [Xn];omega) (Y3.below ha.noise (by exact Xg)) (Y3.below hb.noise (by exact Xg))).mono ?_
 rintro e w1 ⟨rfl,hb1⟩
 have r1:=Xd hb1
 have l1:w.heap.size<w1.heap.size:=blt hb1 (by first|(simp;done)|(simp;omega)|omega)
 have m1:w.heap.size+1<w1.heap.size:=blt hb1 (by first|(simp;done)|(simp;omega)|omega)
 go_wp2_with (fail)
 refine (eqRegion_t x.limits a.limits b.limits _ (by simp only [Xn];omega) (Y3.below ha.limits (by exact Xg)) (Y3.below hb.limits (by exact Xg))).mono ?_
 rintro e w2 ⟨rfl,hb2⟩
 have r2:=Xd hb2
 have l2:w.heap.size<w2.heap.size:=blt hb2 (by first|(simp;done)|(simp;omega)|omega)
 have m2:w.heap.size+1<w2.heap.size:=blt hb2 (by first|(simp;done)|(simp;omega)|omega)
 go_wp2
 go_ret
 refine ⟨rfl, ?_⟩
 exact Xg
set_option maxRecDepth 100000 in
set_option maxHeartbeats 2000000 in
theorem toRoom_c (x:XJ) (a:Ye) (w:World) (hn:Xp x≤1048576) (hs:Yh w x a) :
 Calls Tryz.prog 18 #[XY x a] w fun e w'=>∃ a',e=.returned (XY x a')∧XR w' w.heap.size x a'∧Below w.heap.size w w':=by
 simp only [Xp] at hn
 go_enter Tryz.func18,Tryz.ntmps18
 go_wp2_with (fail)
 refine (toIntS_c a.map.A x.map _ _ (by omega) (Sl.below hs.map (by exact Xg))).mono ?_
 rintro e w0 ⟨v0,rfl,N0,hb0⟩
 obtain ⟨A0,k0,rfl,ho0⟩:=N0
 have N0:XK 3 1 YW w0 _ (.slice A0 (List.length x.map) k0) x.map:=⟨A0,k0,rfl,ho0⟩
 clear ho0
 have K0:=N0.blk
 replace N0:=N0.mono (base':=w.heap.size+1+1+1) (by first|(simp;done)|(simp;omega)|omega)
 have r0:=Xd hb0
 have f0:=(bcell hb0).2
 have l0:w.heap.size<w0.heap.size:=blt hb0 (by first|(simp;done)|(simp;omega)|omega)
 have m0:w.heap.size+1<w0.heap.size:=blt hb0 (by first|(simp;done)|(simp;omega)|omega)
 have n0:w.heap.size+1+1<w0.heap.size:=blt hb0 (by first|(simp;done)|(simp;omega)|omega)
 go_wp2_with (fail)
 refine (Kz x.noise a.noise _ (by simp only [Xn];omega) (Y3.below hs.noise (by exact Xg))).mono ?_
 rintro e w1 ⟨a1,rfl,N1,hb1⟩
 have K1:=N1.blk
 replace N1:=N1.mono (base':=w.heap.size+1+1+1) (by first|(simp;done)|(simp;omega)|omega)
 have r1:=Xd hb1
 have f1:=(bcell hb1).2
 have s1:w0.heap.size≤w1.heap.size:=by simpa using hb1.size
 have l1:w.heap.size<w1.heap.size:=blt hb1 (by first|(simp;done)|(simp;omega)|omega)
 have m1:w.heap.size+1<w1.heap.size:=blt hb1 (by first|(simp;done)|(simp;omega)|omega)
 have n1:w.heap.size+1+1<w1.heap.size:=blt hb1 (by first|(simp;done)|(simp;omega)|omega)
 go_wp2_with (fail)
 refine (Kz x.limits a.limits _ (by simp only [Xn];omega) (Y3.below hs.limits (by exact Xg))).mono ?_
 rintro e w2 ⟨a2,rfl,N2,hb2⟩
 have K2:=N2.blk
 replace N2:=N2.mono (base':=w.heap.size+1+1+1) (by first|(simp;done)|(simp;omega)|omega)
 have r2:=Xd hb2
 have f2:=(bcell hb2).2
 have s2:w1.heap.size≤w2.heap.size:=by simpa using hb2.size
 have l2:w.heap.size<w2.heap.size:=blt hb2 (by first|(simp;done)|(simp;omega)|omega)
 have m2:w.heap.size+1<w2.heap.size:=blt hb2 (by first|(simp;done)|(simp;omega)|omega)
 have n2:w.heap.size+1+1<w2.heap.size:=blt hb2 (by first|(simp;done)|(simp;omega)|omega)
 have H:XG w2 (w.heap.size+1) [.slice none 0 0,.int .i64 0,.int .i64 0,.int .i64 0,.int .i64 0,.int .i64 0,.slice none 0 0,.slice none 0 0]:=by
  exact Ya
 obtain ⟨cH_0,fH_0⟩:=H.2 0 _ rfl
 obtain ⟨cH_1,fH_1⟩:=H.2 1 _ rfl
 obtain ⟨cH_2,fH_2⟩:=H.2 2 _ rfl
 obtain ⟨cH_3,fH_3⟩:=H.2 3 _ rfl
 obtain ⟨cH_4,fH_4⟩:=H.2 4 _ rfl
 obtain ⟨cH_5,fH_5⟩:=H.2 5 _ rfl
 obtain ⟨cH_6,fH_6⟩:=H.2 6 _ rfl
 obtain ⟨cH_7,fH_7⟩:=H.2 7 _ rfl
 go_wp2
 refine bodyPost_ret (v:=XY x ⟨⟨A0,k0⟩,a1,a2⟩) (by simp [results,Tryz.results18,go_sem,cH_0,cH_1,cH_2,cH_3,cH_4,cH_5,cH_6,cH_7]) rfl ?_
 refine ⟨⟨⟨A0,k0⟩,a1,a2⟩,rfl,⟨?_, ?_, ?_, ?_⟩, ?_⟩
 ·refine XK.mono (base:=w.heap.size+1+1+1) ?_ (by omega)
  repeat (first|(with_reducible exact N0)|(with_reducible refine XK.low ?_ (by first|(simp;done)|(simp;omega)|omega) _)|(with_reducible refine XK.below ?_ (by assumption) Xw))
 ·refine Xv.mono (base:=w.heap.size+1+1+1) ?_ (by omega)
  repeat (first|(with_reducible exact N1)|(with_reducible refine Xv.low ?_ (by first|(simp;done)|(simp;omega)|omega) _)|(with_reducible refine Xv.below ?_ (by assumption) Xw))
 ·refine Xv.mono (base:=w.heap.size+1+1+1) ?_ (by omega)
  repeat (first|(with_reducible exact N2)|(with_reducible refine Xv.low ?_ (by first|(simp;done)|(simp;omega)|omega) _)|(with_reducible refine Xv.below ?_ (by assumption) Xw))
 ·simp only [List.pairwise_cons,List.mem_cons,List.not_mem_nil,or_false,forall_eq_or_imp,forall_eq,false_implies,implies_true,List.Pairwise.nil,and_true]
  exact ⟨⟨Blk.apart (K0) (K1) (by first|(simp;done)|(simp;omega)|omega),Blk.apart (K0) (K2) (by first|(simp;done)|(simp;omega)|omega)⟩,Blk.apart (K1) (K2) (by first|(simp;done)|(simp;omega)|omega)⟩
 ·exact Xg
end Go.Proofs.YtkjimfapbjdafaaGreat
end
