/-
 The functions on tables: what they return.
 Conditions: the slice of cells holds at most 2^20 ints.
-/
import Derived.Test.YtdncnhcffbgjhaaGreatGrC
import Derived.Test.YtdncnhcffbgjhaaGreatGrA
import Derived.StillTailTactics
section
namespace Go.Proofs.YtdncnhcffbgjhaaGreat
open Go.RowKit
structure Tab where
 x0:Int
 y0:Int
 step:Int
 nx:Int
 ny:Int
 cells:List Int
def Tab.In (t:Tab):Prop:=In64 t.x0∧In64 t.y0∧In64 t.step∧In64 t.nx∧In64 t.ny
abbrev tabV (t:Tab) (A:Option Addr) (cap:Nat):Value:=.agg #[.int .i64 t.x0,.int .i64 t.y0,.int .i64 t.step,.int .i64 t.nx,.int .i64 t.ny,.slice A t.cells.length cap]
abbrev tabC (t:Tab) (A:Option Addr) (cap:Nat):List Value:=[.int .i64 t.x0,.int .i64 t.y0,.int .i64 t.step,.int .i64 t.nx,.int .i64 t.ny,.slice A t.cells.length cap]
def gridOk (t:Tab):Bool:=inR t.x0 (-1000) 1000&&inR t.y0 (-1000) 1000&&inR t.step 1 100&&inR t.nx 1 100&&inR t.ny 1 100&&decide (t.nx*t.ny≤400)&&decide (t.x0+t.nx*t.step≤1000)&&decide (t.y0+t.ny*t.step≤1000)
def cellOk (n:Int):Bool:=n == -1000000||inR n (-1000) 1000
def tableOk (t:Tab):Bool:=gridOk t&&decide ((t.cells.length:Int)=t.nx*t.ny)&&t.cells.all cellOk
end Go.Proofs.YtdncnhcffbgjhaaGreat
end
section
namespace Go.Proofs.YtdncnhcffbgjhaaGreat
open Go.RowKit
theorem New.low {α:Type} {T sz:Nat} {enc:α→List Value} {w:World} {base:Nat} {v:Value} {xs:List α} (h:New T sz enc w base v xs) {p:Addr} (hp:p.block<base) (u:Value):New T sz enc (w.setCell p u) base v xs:=by
 obtain ⟨A,cap,rfl,ho⟩:=h
 exact ⟨A,cap,rfl,ownsRow_setCell_below ho hp u⟩
theorem szIntS_c (A:Option Addr) (n cap:Nat) (left:Int) (w:World) (hn:n≤9223372036854775807) (h0:0≤left) (h1:left≤1048576) :
 Calls Tryz.prog 59 #[.slice A n cap,.int .i64 left] w fun e w'=>e=.returned (.int .i64 (if left-n<0 then -1 else left-n))∧w=w':=by
 by_cases h:left-n<0
 all_goals
  go_enter Tryz.func59,Tryz.ntmps59
  go_wp2
  go_ret
  exact ⟨ret_int (by simp),rfl⟩
set_option maxRecDepth 100000 in
theorem toIntS_c (A:Option Addr) (xs:List Int) (cap:Nat) (w:World) (hn:xs.length≤1048576) (hs:Sl 1 intC w A xs) :
 Calls Tryz.prog 65 #[.slice A xs.length cap] w fun e w'=>∃ v,e=.returned v∧New 3 1 intC w' w.heap.size v xs∧Below w.heap.size w w':=by
 obtain ⟨i0,hi0,hz0,hz1,hz2⟩:=info_parts (show (Tryz.prog.info? 3).map (fun i=>(i.zero,i.size,i.bytes))=some (some (.int .i64 0),1,8) by kernel_rfl)
 have hmk:∀ W:World,(Instr.makeSlice 22 (.int .i64 (xs.length:Int)) (.int .i64 (xs.length:Int))).run Tryz.prog W=.ok (.slice (some ⟨W.heap.size,0,none⟩) xs.length xs.length) (W.alloc (.cells (madeCells #[.int .i64 0] xs.length) 3)):=by
  intro W
  have h:=run_make (P:=Tryz.prog) W 22 3 i0 _ Tryz.underlying22 hi0 hz0 .i64 .i64 (xs.length:Int) (xs.length:Int) (by omega) (by omega) (by rw [hz2];omega) (by omega)
  rw [hz1] at h
  simpa [Value.cells] using h
 go_enter Tryz.func65,Tryz.ntmps65
 go_wp2
 go_loopw [4] (fun i wr=>∃ k:Nat,k≤xs.length∧i=.int .i64 k∧Filled 3 1 intC wr w.heap.size (xs.length*1) xs k∧Below w.heap.size w wr) (fun i _=>xs.length-(intOf i).toNat)
 case atStart=>exact ⟨0,Nat.zero_le _,rfl,Filled.start (by simp [madeCells]) leR,below_al bR _⟩
 case round =>
  obtain ⟨k,hk,rfl,hfill,hbw⟩:=hrel
  by_cases hlt:k<xs.length
  ·obtain ⟨b,off,rfl,hblt,hc⟩:=(hs.below hbw).at_ hlt
   have g0:=hc 0 _ rfl
   clear hc
   simp only [Nat.mul_one,Nat.add_zero] at g0
   obtain ⟨u0,c0⟩:=hfill.cell (m:=k) (by omega)
   have f0:=hfill.frozen k
   have hst:=hfill.stored intC_len hlt (vs:=intC xs[k]) rfl
   have hst2:=below_setCells (Nat.le_refl w.heap.size) (intC xs[k]) (k*1) _ hbw
   rw [Nat.mul_one] at hst hst2
   generalize xs[k]=x at *
   go_wp2
   exact ⟨⟨k+1,by omega,by go_num,hst,hst2⟩,by simp [intOf];omega⟩
  ·obtain rfl:k=xs.length:=by omega
   go_wp2
   go_ret
   exact ⟨_,rfl,hfill.new intC_len leR (by unfold maxLen;omega),hbw⟩
set_option maxRecDepth 100000 in
theorem eqIntS_t (A B:Option Addr) (xs:List Int) (c d:Nat) (w:World) (hn:xs.length≤1048576) (ha:Sl 1 intC w A xs) (hb:Sl 1 intC w B xs) :
 Calls Tryz.prog 72 #[.slice A xs.length c,.slice B xs.length d] w fun e w'=>e=.returned (.bool true)∧Below w.heap.size w w':=by
 go_enter Tryz.func72,Tryz.ntmps72
 go_wp2
 go_loopw [5] (fun i wr=>∃ k:Nat,k≤xs.length∧i=.int .i64 k∧Below w.heap.size w wr) (fun i _=>xs.length-(intOf i).toNat)
 case atStart=>exact ⟨0,Nat.zero_le _,rfl,Below.refl _ _⟩
 case round =>
  obtain ⟨k,hk,rfl,hbw⟩:=hrel
  by_cases hlt:k<xs.length
  ·obtain ⟨b,off,rfl,hblt,hc⟩:=(ha.below hbw).at_ hlt
   obtain ⟨b',off',rfl,hblt',hc'⟩:=(hb.below hbw).at_ hlt
   have g0:=hc 0 _ rfl
   have g1:=hc' 0 _ rfl
   clear hc hc'
   simp only [Nat.mul_one,Nat.add_zero] at g0 g1
   generalize xs[k]=x at *
   have i1:(0:Int)≤(k:Int):=by omega
   have i2:(k:Int)<(xs.length:Int):=by omega
   go_wp2
   go_quiet (fail)
   go_wp2
   exact ⟨⟨k+1,by omega,by go_num,below_drewN hbw _⟩,by simp [intOf];omega⟩
  ·go_wp2
   go_ret
   exact ⟨rfl,hbw⟩
end Go.Proofs.YtdncnhcffbgjhaaGreat
end
section
namespace Go.Proofs.YtdncnhcffbgjhaaGreat
open Go.RowKit
structure RegionNew (w:World) (base:Nat) (x:List Half) (a:SlA):Prop where
 halves:New 111 3 halfC w base (.slice a.A (List.length x) a.c) x
theorem RegionNew.sl {w:World} {base:Nat} {x:List Half} {a:SlA} (h:RegionNew w base x a):RegionSl w x a:=⟨h.halves.out halfC_len⟩
theorem RegionNew.below {w w':World} {base B:Nat} {x:List Half} {a:SlA} (h:RegionNew w base x a) (hb:Below B w w') (hB:w.heap.size≤B):RegionNew w' base x a:=⟨h.halves.below hb hB⟩
theorem RegionNew.mono {w:World} {base base':Nat} {x:List Half} {a:SlA} (h:RegionNew w base x a) (hb:base'≤base):RegionNew w base' x a:=⟨h.halves.mono hb⟩
theorem RegionNew.low {w:World} {base:Nat} {x:List Half} {a:SlA} (h:RegionNew w base x a) {p:Addr} (hp:p.block<base) (u:Value):RegionNew (w.setCell p u) base x a:=⟨h.halves.low hp u⟩
theorem RegionNew.blk {w:World} {base:Nat} {x:List Half} {a:SlA} (h:RegionNew w base x a):Blk base w.heap.size a:=h.halves.blk
structure RoomNew (w:World) (base:Nat) (x:Room) (a:RoomA):Prop where
 map:New 3 1 intC w base (.slice a.map.A (List.length x.map) a.map.c) x.map
 noise:RegionNew w base x.noise a.noise
 limits:RegionNew w base x.limits a.limits
 apart:List.Pairwise Apart [a.map,a.noise,a.limits]
theorem RoomNew.sl {w:World} {base:Nat} {x:Room} {a:RoomA} (h:RoomNew w base x a):RoomSl w x a:=⟨h.map.out intC_len,h.noise.sl,h.limits.sl⟩
theorem RoomNew.below {w w':World} {base B:Nat} {x:Room} {a:RoomA} (h:RoomNew w base x a) (hb:Below B w w') (hB:w.heap.size≤B):RoomNew w' base x a:=⟨h.map.below hb hB,h.noise.below hb hB,h.limits.below hb hB,h.apart⟩
theorem RoomNew.mono {w:World} {base base':Nat} {x:Room} {a:RoomA} (h:RoomNew w base x a) (hb:base'≤base):RoomNew w base' x a:=⟨h.map.mono hb,h.noise.mono hb,h.limits.mono hb,h.apart⟩
theorem RoomNew.low {w:World} {base:Nat} {x:Room} {a:RoomA} (h:RoomNew w base x a) {p:Addr} (hp:p.block<base) (u:Value):RoomNew (w.setCell p u) base x a:=⟨h.map.low hp u,h.noise.low hp u,h.limits.low hp u,h.apart⟩
theorem RoomNew.blk {w:World} {base:Nat} {x:Room} {a:RoomA} (h:RoomNew w base x a):Blk base w.heap.size a.map∧Blk base w.heap.size a.noise∧Blk base w.heap.size a.limits:=⟨h.map.blk,h.noise.blk,h.limits.blk⟩
structure WatchNew (w:World) (base:Nat) (x:Watch) (a:WatchA):Prop where
 room:RoomNew w base x.room a.room
 reg:RegionNew w base x.reg a.reg
 log:New 3 1 intC w base (.slice a.log.A (List.length x.log) a.log.c) x.log
 apart:List.Pairwise Apart [a.room.map,a.room.noise,a.room.limits,a.reg,a.log]
theorem WatchNew.sl {w:World} {base:Nat} {x:Watch} {a:WatchA} (h:WatchNew w base x a):WatchSl w x a:=⟨h.room.sl,h.reg.sl,h.log.out intC_len⟩
theorem WatchNew.below {w w':World} {base B:Nat} {x:Watch} {a:WatchA} (h:WatchNew w base x a) (hb:Below B w w') (hB:w.heap.size≤B):WatchNew w' base x a:=⟨h.room.below hb hB,h.reg.below hb hB,h.log.below hb hB,h.apart⟩
theorem WatchNew.mono {w:World} {base base':Nat} {x:Watch} {a:WatchA} (h:WatchNew w base x a) (hb:base'≤base):WatchNew w base' x a:=⟨h.room.mono hb,h.reg.mono hb,h.log.mono hb,h.apart⟩
theorem WatchNew.low {w:World} {base:Nat} {x:Watch} {a:WatchA} (h:WatchNew w base x a) {p:Addr} (hp:p.block<base) (u:Value):WatchNew (w.setCell p u) base x a:=⟨h.room.low hp u,h.reg.low hp u,h.log.low hp u,h.apart⟩
theorem WatchNew.blk {w:World} {base:Nat} {x:Watch} {a:WatchA} (h:WatchNew w base x a):Blk base w.heap.size a.room.map∧Blk base w.heap.size a.room.noise∧Blk base w.heap.size a.room.limits∧Blk base w.heap.size a.reg∧Blk base w.heap.size a.log:=⟨h.room.blk.1,h.room.blk.2.1,h.room.blk.2.2,h.reg.blk,h.log.blk⟩
structure TrackNew (w:World) (base:Nat) (x:Track) (a:TrackA):Prop where
 spots:New 57 3 spotC w base (.slice a.spots.A (List.length x.spots) a.spots.c) x.spots
 inputs:New 52 2 ratioC w base (.slice a.inputs.A (List.length x.inputs) a.inputs.c) x.inputs
 apart:List.Pairwise Apart [a.spots,a.inputs]
theorem TrackNew.sl {w:World} {base:Nat} {x:Track} {a:TrackA} (h:TrackNew w base x a):TrackSl w x a:=⟨h.spots.out spotC_len,h.inputs.out ratioC_len⟩
theorem TrackNew.below {w w':World} {base B:Nat} {x:Track} {a:TrackA} (h:TrackNew w base x a) (hb:Below B w w') (hB:w.heap.size≤B):TrackNew w' base x a:=⟨h.spots.below hb hB,h.inputs.below hb hB,h.apart⟩
theorem TrackNew.mono {w:World} {base base':Nat} {x:Track} {a:TrackA} (h:TrackNew w base x a) (hb:base'≤base):TrackNew w base' x a:=⟨h.spots.mono hb,h.inputs.mono hb,h.apart⟩
theorem TrackNew.low {w:World} {base:Nat} {x:Track} {a:TrackA} (h:TrackNew w base x a) {p:Addr} (hp:p.block<base) (u:Value):TrackNew (w.setCell p u) base x a:=⟨h.spots.low hp u,h.inputs.low hp u,h.apart⟩
theorem TrackNew.blk {w:World} {base:Nat} {x:Track} {a:TrackA} (h:TrackNew w base x a):Blk base w.heap.size a.spots∧Blk base w.heap.size a.inputs:=⟨h.spots.blk,h.inputs.blk⟩
structure LawNew (w:World) (base:Nat) (x:Law) (a:LawA):Prop where
 lows:New 109 4 pieceC w base (.slice a.lows.A (List.length x.lows) a.lows.c) x.lows
 highs:New 109 4 pieceC w base (.slice a.highs.A (List.length x.highs) a.highs.c) x.highs
 apart:List.Pairwise Apart [a.lows,a.highs]
theorem LawNew.sl {w:World} {base:Nat} {x:Law} {a:LawA} (h:LawNew w base x a):LawSl w x a:=⟨h.lows.out pieceC_len,h.highs.out pieceC_len⟩
theorem LawNew.below {w w':World} {base B:Nat} {x:Law} {a:LawA} (h:LawNew w base x a) (hb:Below B w w') (hB:w.heap.size≤B):LawNew w' base x a:=⟨h.lows.below hb hB,h.highs.below hb hB,h.apart⟩
theorem LawNew.mono {w:World} {base base':Nat} {x:Law} {a:LawA} (h:LawNew w base x a) (hb:base'≤base):LawNew w base' x a:=⟨h.lows.mono hb,h.highs.mono hb,h.apart⟩
theorem LawNew.low {w:World} {base:Nat} {x:Law} {a:LawA} (h:LawNew w base x a) {p:Addr} (hp:p.block<base) (u:Value):LawNew (w.setCell p u) base x a:=⟨h.lows.low hp u,h.highs.low hp u,h.apart⟩
theorem LawNew.blk {w:World} {base:Nat} {x:Law} {a:LawA} (h:LawNew w base x a):Blk base w.heap.size a.lows∧Blk base w.heap.size a.highs:=⟨h.lows.blk,h.highs.blk⟩
end Go.Proofs.YtdncnhcffbgjhaaGreat
end
section
namespace Go.Proofs.YtdncnhcffbgjhaaGreat
open Go.RowKit
theorem toHalf_c (x:Half) (w:World) :
 Calls Tryz.prog 131 #[halfV x] w fun e w'=>e=.returned (halfV x)∧Below w.heap.size w w':=by
 go_enter Tryz.func131,Tryz.ntmps131
 go_wp2
 refine bodyPost_ret (v:=.agg #[.int .i64 x.a,.int .i64 x.b,.int .i64 x.c]) (by simp [results,Tryz.results131,go_sem]) rfl ⟨rfl, ?_⟩
 exact belA
theorem eqHalf_t (x:Half) (w:World) :
 Calls Tryz.prog 138 #[halfV x,halfV x] w fun e w'=>e=.returned (.bool true)∧Below w.heap.size w w':=by
 go_enter Tryz.func138,Tryz.ntmps138
 go_wp2
 go_ret
 refine ⟨rfl, ?_⟩
 exact belA
theorem eqPiece_t (x:Piece) (w:World) :
 Calls Tryz.prog 137 #[pieceV x,pieceV x] w fun e w'=>e=.returned (.bool true)∧Below w.heap.size w w':=by
 go_enter Tryz.func137,Tryz.ntmps137
 go_wp2
 go_ret
 refine ⟨rfl, ?_⟩
 exact belA
end Go.Proofs.YtdncnhcffbgjhaaGreat
end
section
namespace Go.Proofs.YtdncnhcffbgjhaaGreat
open Go.RowKit
theorem szHalfS_c (A:Option Addr) (n cap:Nat) (left:Int) (w:World) (hn:n≤9223372036854775807) (h0:0≤left) (h1:left≤1048576) :
 Calls Tryz.prog 60 #[.slice A n cap,.int .i64 left] w fun e w'=>e=.returned (.int .i64 (if left-n<0 then -1 else left-n))∧w=w':=by
 by_cases h:left-n<0
 all_goals
  go_enter Tryz.func60,Tryz.ntmps60
  go_wp2
  go_ret
  exact ⟨ret_int (by simp),rfl⟩
set_option maxRecDepth 100000 in
theorem eqHalfS_t (A B:Option Addr) (xs:List Half) (c d:Nat) (w:World) (hn:xs.length≤1048576) (ha:Sl 3 halfC w A xs) (hb:Sl 3 halfC w B xs) :
 Calls Tryz.prog 73 #[.slice A xs.length c,.slice B xs.length d] w fun e w'=>e=.returned (.bool true)∧Below w.heap.size w w':=by
 go_enter Tryz.func73,Tryz.ntmps73
 go_wp2
 go_loopw [5] (fun i wr=>∃ k:Nat,k≤xs.length∧i=.int .i64 k∧Below w.heap.size w wr) (fun i _=>xs.length-(intOf i).toNat)
 case atStart=>exact ⟨0,Nat.zero_le _,rfl,Below.refl _ _⟩
 case round =>
  obtain ⟨k,hk,rfl,hbw⟩:=hrel
  by_cases hlt:k<xs.length
  ·obtain ⟨b,off,rfl,hblt,hc⟩:=(ha.below hbw).at_ hlt
   obtain ⟨b',off',rfl,hblt',hc'⟩:=(hb.below hbw).at_ hlt
   have g0:=hc 0 _ rfl
   have g1:=hc 1 _ rfl
   have g2:=hc 2 _ rfl
   have g0':=hc' 0 _ rfl
   have g1':=hc' 1 _ rfl
   have g2':=hc' 2 _ rfl
   clear hc hc'
   simp only [Nat.add_zero] at g0 g0'
   generalize xs[k]=x at *
   go_wp2
   go_still_tail 8,(by kernel_rfl)
   change wpList _ _ _ _ _ wr.drew
   generalize hwr:wr.drew=w2
   have hb2:Below w.heap.size w w2:=by rw [← hwr];exact hbw.drew
   clear hwr
   go_wp2_with (fail)
   refine (eqHalf_t x _).mono ?_
   rintro e w1 ⟨rfl,hb1⟩
   go_wp2
   go_roundw
   case rel=>exact ⟨k+1,by omega,by go_num,hb2.trans (hb1.mono hb2.size)⟩
   case measure=>simp [intOf];omega
  ·go_wp2
   go_ret
   exact ⟨rfl,hbw⟩
set_option maxRecDepth 100000 in
theorem toHalfS_c (A:Option Addr) (xs:List Half) (cap:Nat) (w:World) (hn:xs.length≤1048576) (hs:Sl 3 halfC w A xs) :
 Calls Tryz.prog 66 #[.slice A xs.length cap] w fun e w'=>∃ v,e=.returned v∧New 111 3 halfC w' w.heap.size v xs∧Below w.heap.size w w':=by
 obtain ⟨i0,hi0,hz0,hz1,hz2⟩:=info_parts (show (Tryz.prog.info? 111).map (fun i=>(i.zero,i.size,i.bytes))=some (some (.agg #[.int .i64 0,.int .i64 0,.int .i64 0]),3,24) by kernel_rfl)
 have hmk:∀ W:World,(Instr.makeSlice 35 (.int .i64 (xs.length:Int)) (.int .i64 (xs.length:Int))).run Tryz.prog W=.ok (.slice (some ⟨W.heap.size,0,none⟩) xs.length xs.length) (W.alloc (.cells (madeCells #[.int .i64 0,.int .i64 0,.int .i64 0] (xs.length*3)) 111)):=by
  intro W
  have h:=run_make (P:=Tryz.prog) W 35 111 i0 _ Tryz.underlying35 hi0 hz0 .i64 .i64 (xs.length:Int) (xs.length:Int) (by omega) (by omega) (by rw [hz2];omega) (by omega)
  rw [hz1] at h
  simpa [Value.cells] using h
 go_enter Tryz.func66,Tryz.ntmps66
 go_wp2
 go_loopw [4] (fun i wr=>∃ k:Nat,k≤xs.length∧i=.int .i64 k∧Filled 111 3 halfC wr w.heap.size (xs.length*3) xs k∧Below w.heap.size w wr) (fun i _=>xs.length-(intOf i).toNat)
 case atStart=>exact ⟨0,Nat.zero_le _,rfl,Filled.start (by simp [madeCells]) leR,below_al bR _⟩
 case round =>
  obtain ⟨k,hk,rfl,hfill,hbw⟩:=hrel
  by_cases hlt:k<xs.length
  ·obtain ⟨b,off,rfl,hblt,hc⟩:=(hs.below hbw).at_ hlt
   have g0:=hc 0 _ rfl
   have g1:=hc 1 _ rfl
   have g2:=hc 2 _ rfl
   clear hc
   simp only [Nat.add_zero] at g0
   have hx:xs[k]=xs[k]:=rfl
   generalize hxx:xs[k]=x at *
   have HX:=Lib.hid hxx
   clear hxx hx
   go_wp2_with (fail)
   refine (toHalf_c x _).mono ?_
   rintro e w1 ⟨rfl,hb1⟩
   have hfill1:=hfill.below hb1
   have hbw1:=below_tr hbw hb1
   have hm:=Nat.mul_le_mul_right 3 hlt
   obtain ⟨u0,c0⟩:=hfill1.cell (m:=k*3) (by omega)
   have f0:=hfill1.frozen (k*3)
   obtain ⟨u1,c1⟩:=hfill1.cell (m:=k*3+1) (by omega)
   have f1:=hfill1.frozen (k*3+1)
   obtain ⟨u2,c2⟩:=hfill1.cell (m:=k*3+2) (by omega)
   have f2:=hfill1.frozen (k*3+2)
   clear hm
   have hst:=hfill1.stored halfC_len hlt (vs:=halfC x) (by rw [HX.out])
   have hst2:=below_setCells (Nat.le_refl w.heap.size) (halfC x) (k*3) _ hbw1
   go_wp2
   exact ⟨⟨k+1,by omega,by go_num,hst,hst2⟩,by simp [intOf];omega⟩
  ·obtain rfl:k=xs.length:=by omega
   go_wp2
   go_ret
   exact ⟨_,rfl,hfill.new halfC_len leR (by unfold maxLen;omega),hbw⟩
set_option maxRecDepth 100000 in
theorem eqPieceS_t (A B:Option Addr) (xs:List Piece) (c d:Nat) (w:World) (hn:xs.length≤1048576) (ha:Sl 4 pieceC w A xs) (hb:Sl 4 pieceC w B xs) :
 Calls Tryz.prog 71 #[.slice A xs.length c,.slice B xs.length d] w fun e w'=>e=.returned (.bool true)∧Below w.heap.size w w':=by
 go_enter Tryz.func71,Tryz.ntmps71
 go_wp2
 go_loopw [5] (fun i wr=>∃ k:Nat,k≤xs.length∧i=.int .i64 k∧Below w.heap.size w wr) (fun i _=>xs.length-(intOf i).toNat)
 case atStart=>exact ⟨0,Nat.zero_le _,rfl,Below.refl _ _⟩
 case round =>
  obtain ⟨k,hk,rfl,hbw⟩:=hrel
  by_cases hlt:k<xs.length
  ·obtain ⟨b,off,rfl,hblt,hc⟩:=(ha.below hbw).at_ hlt
   obtain ⟨b',off',rfl,hblt',hc'⟩:=(hb.below hbw).at_ hlt
   have g0:=hc 0 _ rfl
   have g1:=hc 1 _ rfl
   have g2:=hc 2 _ rfl
   have g3:=hc 3 _ rfl
   have g0':=hc' 0 _ rfl
   have g1':=hc' 1 _ rfl
   have g2':=hc' 2 _ rfl
   have g3':=hc' 3 _ rfl
   clear hc hc'
   simp only [Nat.add_zero] at g0 g0'
   generalize xs[k]=x at *
   go_wp2
   go_still_tail 8,(by kernel_rfl)
   change wpList _ _ _ _ _ wr.drew
   generalize hwr:wr.drew=w2
   have hb2:Below w.heap.size w w2:=by rw [← hwr];exact hbw.drew
   clear hwr
   go_wp2_with (fail)
   refine (eqPiece_t x _).mono ?_
   rintro e w1 ⟨rfl,hb1⟩
   go_wp2
   go_roundw
   case rel=>exact ⟨k+1,by omega,by go_num,hb2.trans (hb1.mono hb2.size)⟩
   case measure=>simp [intOf];omega
  ·go_wp2
   go_ret
   exact ⟨rfl,hbw⟩
end Go.Proofs.YtdncnhcffbgjhaaGreat
end
section
namespace Go.Proofs.YtdncnhcffbgjhaaGreat
open Go.RowKit
set_option maxRecDepth 100000 in
set_option maxHeartbeats 1000000 in
theorem szRegion_c (x:List Half) (a:SlA) (left:Int) (w:World) (hn:List.length x≤9223372036854775807) (h0:0≤left) (h1:left≤1048576) :
 Calls Tryz.prog 12 #[regionV x a,.int .i64 left] w fun e w'=>e=.returned (.int .i64 (if left-regionLen x<0 then -1 else left-regionLen x))∧Below w.heap.size w w':=by
 have hn0:=hn
 have hlen:Hid (((regionLen x:Nat):Int)=((List.length x:Nat):Int)):=by show _=_;simp only [regionLen];(try omega)
 have p0:(0:Int)≤((List.length x:Nat):Int):=by omega
 by_cases c0:left-((List.length x:Nat):Int)<0
 ·skip
  have hfin:(if left-((regionLen x:Nat):Int)<0 then (-1:Int) else left-((regionLen x:Nat):Int)) = -1:=by have:=hlen.out;rw [if_pos (by omega)]
  rw [hfin]
  clear hfin
  go_enter Tryz.func12,Tryz.ntmps12
  go_wp2_with (fail)
  refine (szHalfS_c a.A (List.length x) a.c (left) _ hn0 (by omega) (by omega)).mono ?_
  rw [if_pos (by omega)]
  rintro e w' ⟨rfl,rfl⟩
  go_wp2
  go_ret
  refine ⟨rfl, ?_⟩
  exact belA
 ·skip
  have hfin:(if left-((regionLen x:Nat):Int)<0 then (-1:Int) else left-((regionLen x:Nat):Int))=left-((List.length x:Nat):Int):=by have:=hlen.out;(rw [if_neg (by omega)];omega)
  rw [hfin]
  clear hfin
  go_enter Tryz.func12,Tryz.ntmps12
  go_wp2_with (fail)
  refine (szHalfS_c a.A (List.length x) a.c (left) _ hn0 (by omega) (by omega)).mono ?_
  rw [if_neg (by omega)]
  rintro e w' ⟨rfl,rfl⟩
  go_wp2
  go_ret
  refine ⟨rfl, ?_⟩
  exact belA
set_option maxRecDepth 100000 in
set_option maxHeartbeats 1000000 in
theorem eqRegion_t (x:List Half) (a b:SlA) (w:World) (hn:regionLen x≤1048576) (ha:RegionSl w x a) (hb:RegionSl w x b) :
 Calls Tryz.prog 19 #[regionV x a,regionV x b] w fun e w'=>e=.returned (.bool true)∧Below w.heap.size w w':=by
 simp only [regionLen] at hn
 go_enter Tryz.func19,Tryz.ntmps19
 go_wp2_with (fail)
 refine (eqHalfS_t a.A b.A x _ _ _ (by omega) (Sl.below ha.halves (by exact belA)) (Sl.below hb.halves (by exact belA))).mono ?_
 rintro e w0 ⟨rfl,hb0⟩
 have r0:=bcell1 hb0
 have l0:w.heap.size<w0.heap.size:=blt hb0 (by first|(simp;done)|(simp;omega)|omega)
 have m0:w.heap.size+1<w0.heap.size:=blt hb0 (by first|(simp;done)|(simp;omega)|omega)
 go_wp2
 go_ret
 refine ⟨rfl, ?_⟩
 exact belA
set_option maxRecDepth 100000 in
set_option maxHeartbeats 2000000 in
theorem toRegion_c (x:List Half) (a:SlA) (w:World) (hn:regionLen x≤1048576) (hs:RegionSl w x a) :
 Calls Tryz.prog 15 #[regionV x a] w fun e w'=>∃ a',e=.returned (regionV x a')∧RegionNew w' w.heap.size x a'∧Below w.heap.size w w':=by
 simp only [regionLen] at hn
 go_enter Tryz.func15,Tryz.ntmps15
 go_wp2_with (fail)
 refine (toHalfS_c a.A x _ _ (by omega) (Sl.below hs.halves (by exact belA))).mono ?_
 rintro e w0 ⟨v0,rfl,N0,hb0⟩
 obtain ⟨A0,k0,rfl,ho0⟩:=N0
 have N0:New 111 3 halfC w0 _ (.slice A0 (List.length x) k0) x:=⟨A0,k0,rfl,ho0⟩
 clear ho0
 have K0:=N0.blk
 replace N0:=N0.mono (base':=w.heap.size+1+1+1) (by first|(simp;done)|(simp;omega)|omega)
 have r0:=bcell1 hb0
 have f0:=(bcell hb0).2
 have l0:w.heap.size<w0.heap.size:=blt hb0 (by first|(simp;done)|(simp;omega)|omega)
 have m0:w.heap.size+1<w0.heap.size:=blt hb0 (by first|(simp;done)|(simp;omega)|omega)
 have n0:w.heap.size+1+1<w0.heap.size:=blt hb0 (by first|(simp;done)|(simp;omega)|omega)
 have H:Has w0 (w.heap.size+1) [.slice none 0 0]:=by
  exact hasA
 obtain ⟨cH_0,fH_0⟩:=H.2 0 _ rfl
 go_wp2
 refine bodyPost_ret (v:=regionV x ⟨A0,k0⟩) (by simp [results,Tryz.results15,go_sem,cH_0]) rfl ?_
 refine ⟨⟨A0,k0⟩,rfl,⟨?_⟩, ?_⟩
 ·refine New.mono (base:=w.heap.size+1+1+1) ?_ (by omega)
  repeat (first|(with_reducible exact N0)|(with_reducible refine New.low ?_ (by first|(simp;done)|(simp;omega)|omega) _)|(with_reducible refine New.below ?_ (by assumption) leR))
 ·exact belA
set_option maxRecDepth 100000 in
set_option maxHeartbeats 1000000 in
theorem szRoom_c (x:Room) (a:RoomA) (left:Int) (w:World) (hn:List.length x.map≤9223372036854775807∧List.length x.noise≤9223372036854775807∧List.length x.limits≤9223372036854775807) (h0:0≤left) (h1:left≤1048576) :
 Calls Tryz.prog 11 #[roomV x a,.int .i64 left] w fun e w'=>e=.returned (.int .i64 (if left-roomLen x<0 then -1 else left-roomLen x))∧Below w.heap.size w w':=by
 obtain ⟨hn0,hn1,hn2⟩:=hn
 have hlen:Hid (((roomLen x:Nat):Int)=((List.length x.map:Nat):Int)+((regionLen x.noise:Nat):Int)+((regionLen x.limits:Nat):Int)):=by show _=_;simp only [regionLen,roomLen];(try omega)
 have p0:(0:Int)≤((List.length x.map:Nat):Int):=by omega
 have p1:(0:Int)≤((regionLen x.noise:Nat):Int):=by omega
 have p2:(0:Int)≤((regionLen x.limits:Nat):Int):=by omega
 by_cases c0:left-((List.length x.map:Nat):Int)<0
 ·skip
  have hfin:(if left-((roomLen x:Nat):Int)<0 then (-1:Int) else left-((roomLen x:Nat):Int)) = -1:=by have:=hlen.out;rw [if_pos (by omega)]
  rw [hfin]
  clear hfin
  go_enter Tryz.func11,Tryz.ntmps11
  go_wp2_with (fail)
  refine (szIntS_c a.map.A (List.length x.map) a.map.c (left) _ hn0 (by omega) (by omega)).mono ?_
  rw [if_pos (by omega)]
  rintro e w' ⟨rfl,rfl⟩
  go_wp2
  go_ret
  refine ⟨rfl, ?_⟩
  exact belA
 ·skip
  by_cases c1:left-((List.length x.map:Nat):Int)-((regionLen x.noise:Nat):Int)<0
  ·skip
   have hfin:(if left-((roomLen x:Nat):Int)<0 then (-1:Int) else left-((roomLen x:Nat):Int)) = -1:=by have:=hlen.out;rw [if_pos (by omega)]
   rw [hfin]
   clear hfin
   go_enter Tryz.func11,Tryz.ntmps11
   go_wp2_with (fail)
   refine (szIntS_c a.map.A (List.length x.map) a.map.c (left) _ hn0 (by omega) (by omega)).mono ?_
   rw [if_neg (by omega)]
   rintro e w' ⟨rfl,rfl⟩
   go_wp2_with (fail)
   refine (szRegion_c x.noise a.noise (left-((List.length x.map:Nat):Int)) _ hn1 (by omega) (by omega)).mono ?_
   rw [if_pos (by omega)]
   rintro e w1 ⟨rfl,hb1⟩
   have r1:=bcell1 hb1
   have l1:w.heap.size<w1.heap.size:=blt hb1 (by first|(simp;done)|(simp;omega)|omega)
   go_wp2
   go_ret
   refine ⟨rfl, ?_⟩
   exact belA
  ·skip
   by_cases c2:left-((List.length x.map:Nat):Int)-((regionLen x.noise:Nat):Int)-((regionLen x.limits:Nat):Int)<0
   ·skip
    have hfin:(if left-((roomLen x:Nat):Int)<0 then (-1:Int) else left-((roomLen x:Nat):Int)) = -1:=by have:=hlen.out;rw [if_pos (by omega)]
    rw [hfin]
    clear hfin
    go_enter Tryz.func11,Tryz.ntmps11
    go_wp2_with (fail)
    refine (szIntS_c a.map.A (List.length x.map) a.map.c (left) _ hn0 (by omega) (by omega)).mono ?_
    rw [if_neg (by omega)]
    rintro e w' ⟨rfl,rfl⟩
    go_wp2_with (fail)
    refine (szRegion_c x.noise a.noise (left-((List.length x.map:Nat):Int)) _ hn1 (by omega) (by omega)).mono ?_
    rw [if_neg (by omega)]
    rintro e w1 ⟨rfl,hb1⟩
    have r1:=bcell1 hb1
    have l1:w.heap.size<w1.heap.size:=blt hb1 (by first|(simp;done)|(simp;omega)|omega)
    go_wp2_with (fail)
    refine (szRegion_c x.limits a.limits (left-((List.length x.map:Nat):Int)-((regionLen x.noise:Nat):Int)) _ hn2 (by omega) (by omega)).mono ?_
    rw [if_pos (by omega)]
    rintro e w2 ⟨rfl,hb2⟩
    have r2:=bcell1 hb2
    have l2:w.heap.size<w2.heap.size:=blt hb2 (by first|(simp;done)|(simp;omega)|omega)
    go_wp2
    go_ret
    refine ⟨rfl, ?_⟩
    exact belA
   ·skip
    have hfin:(if left-((roomLen x:Nat):Int)<0 then (-1:Int) else left-((roomLen x:Nat):Int))=left-((List.length x.map:Nat):Int)-((regionLen x.noise:Nat):Int)-((regionLen x.limits:Nat):Int):=by have:=hlen.out;(rw [if_neg (by omega)];omega)
    rw [hfin]
    clear hfin
    go_enter Tryz.func11,Tryz.ntmps11
    go_wp2_with (fail)
    refine (szIntS_c a.map.A (List.length x.map) a.map.c (left) _ hn0 (by omega) (by omega)).mono ?_
    rw [if_neg (by omega)]
    rintro e w' ⟨rfl,rfl⟩
    go_wp2_with (fail)
    refine (szRegion_c x.noise a.noise (left-((List.length x.map:Nat):Int)) _ hn1 (by omega) (by omega)).mono ?_
    rw [if_neg (by omega)]
    rintro e w1 ⟨rfl,hb1⟩
    have r1:=bcell1 hb1
    have l1:w.heap.size<w1.heap.size:=blt hb1 (by first|(simp;done)|(simp;omega)|omega)
    go_wp2_with (fail)
    refine (szRegion_c x.limits a.limits (left-((List.length x.map:Nat):Int)-((regionLen x.noise:Nat):Int)) _ hn2 (by omega) (by omega)).mono ?_
    rw [if_neg (by omega)]
    rintro e w2 ⟨rfl,hb2⟩
    have r2:=bcell1 hb2
    have l2:w.heap.size<w2.heap.size:=blt hb2 (by first|(simp;done)|(simp;omega)|omega)
    go_wp2
    go_ret
    refine ⟨rfl, ?_⟩
    exact belA
set_option maxRecDepth 100000 in
set_option maxHeartbeats 1000000 in
theorem eqRoom_t (x:Room) (a b:RoomA) (w:World) (hn:roomLen x≤1048576) (ha:RoomSl w x a) (hb:RoomSl w x b) :
 Calls Tryz.prog 18 #[roomV x a,roomV x b] w fun e w'=>e=.returned (.bool true)∧Below w.heap.size w w':=by
 simp only [roomLen] at hn
 go_enter Tryz.func18,Tryz.ntmps18
 go_wp2_with (fail)
 refine (eqIntS_t a.map.A b.map.A x.map _ _ _ (by omega) (Sl.below ha.map (by exact belA)) (Sl.below hb.map (by exact belA))).mono ?_
 rintro e w0 ⟨rfl,hb0⟩
 have r0:=bcell1 hb0
 have l0:w.heap.size<w0.heap.size:=blt hb0 (by first|(simp;done)|(simp;omega)|omega)
 have m0:w.heap.size+1<w0.heap.size:=blt hb0 (by first|(simp;done)|(simp;omega)|omega)
 go_wp2_with (fail)
 refine (eqRegion_t x.noise a.noise b.noise _ (by simp only [regionLen];omega) (RegionSl.below ha.noise (by exact belA)) (RegionSl.below hb.noise (by exact belA))).mono ?_
 rintro e w1 ⟨rfl,hb1⟩
 have r1:=bcell1 hb1
 have l1:w.heap.size<w1.heap.size:=blt hb1 (by first|(simp;done)|(simp;omega)|omega)
 have m1:w.heap.size+1<w1.heap.size:=blt hb1 (by first|(simp;done)|(simp;omega)|omega)
 go_wp2_with (fail)
 refine (eqRegion_t x.limits a.limits b.limits _ (by simp only [regionLen];omega) (RegionSl.below ha.limits (by exact belA)) (RegionSl.below hb.limits (by exact belA))).mono ?_
 rintro e w2 ⟨rfl,hb2⟩
 have r2:=bcell1 hb2
 have l2:w.heap.size<w2.heap.size:=blt hb2 (by first|(simp;done)|(simp;omega)|omega)
 have m2:w.heap.size+1<w2.heap.size:=blt hb2 (by first|(simp;done)|(simp;omega)|omega)
 go_wp2
 go_ret
 refine ⟨rfl, ?_⟩
 exact belA
set_option maxRecDepth 100000 in
set_option maxHeartbeats 2000000 in
theorem toRoom_c (x:Room) (a:RoomA) (w:World) (hn:roomLen x≤1048576) (hs:RoomSl w x a) :
 Calls Tryz.prog 14 #[roomV x a] w fun e w'=>∃ a',e=.returned (roomV x a')∧RoomNew w' w.heap.size x a'∧Below w.heap.size w w':=by
 simp only [roomLen] at hn
 go_enter Tryz.func14,Tryz.ntmps14
 go_wp2_with (fail)
 refine (toIntS_c a.map.A x.map _ _ (by omega) (Sl.below hs.map (by exact belA))).mono ?_
 rintro e w0 ⟨v0,rfl,N0,hb0⟩
 obtain ⟨A0,k0,rfl,ho0⟩:=N0
 have N0:New 3 1 intC w0 _ (.slice A0 (List.length x.map) k0) x.map:=⟨A0,k0,rfl,ho0⟩
 clear ho0
 have K0:=N0.blk
 replace N0:=N0.mono (base':=w.heap.size+1+1+1) (by first|(simp;done)|(simp;omega)|omega)
 have r0:=bcell1 hb0
 have f0:=(bcell hb0).2
 have l0:w.heap.size<w0.heap.size:=blt hb0 (by first|(simp;done)|(simp;omega)|omega)
 have m0:w.heap.size+1<w0.heap.size:=blt hb0 (by first|(simp;done)|(simp;omega)|omega)
 have n0:w.heap.size+1+1<w0.heap.size:=blt hb0 (by first|(simp;done)|(simp;omega)|omega)
 go_wp2_with (fail)
 refine (toRegion_c x.noise a.noise _ (by simp only [regionLen];omega) (RegionSl.below hs.noise (by exact belA))).mono ?_
 rintro e w1 ⟨a1,rfl,N1,hb1⟩
 have K1:=N1.blk
 replace N1:=N1.mono (base':=w.heap.size+1+1+1) (by first|(simp;done)|(simp;omega)|omega)
 have r1:=bcell1 hb1
 have f1:=(bcell hb1).2
 have s1:w0.heap.size≤w1.heap.size:=by simpa using hb1.size
 have l1:w.heap.size<w1.heap.size:=blt hb1 (by first|(simp;done)|(simp;omega)|omega)
 have m1:w.heap.size+1<w1.heap.size:=blt hb1 (by first|(simp;done)|(simp;omega)|omega)
 have n1:w.heap.size+1+1<w1.heap.size:=blt hb1 (by first|(simp;done)|(simp;omega)|omega)
 go_wp2_with (fail)
 refine (toRegion_c x.limits a.limits _ (by simp only [regionLen];omega) (RegionSl.below hs.limits (by exact belA))).mono ?_
 rintro e w2 ⟨a2,rfl,N2,hb2⟩
 have K2:=N2.blk
 replace N2:=N2.mono (base':=w.heap.size+1+1+1) (by first|(simp;done)|(simp;omega)|omega)
 have r2:=bcell1 hb2
 have f2:=(bcell hb2).2
 have s2:w1.heap.size≤w2.heap.size:=by simpa using hb2.size
 have l2:w.heap.size<w2.heap.size:=blt hb2 (by first|(simp;done)|(simp;omega)|omega)
 have m2:w.heap.size+1<w2.heap.size:=blt hb2 (by first|(simp;done)|(simp;omega)|omega)
 have n2:w.heap.size+1+1<w2.heap.size:=blt hb2 (by first|(simp;done)|(simp;omega)|omega)
 have H:Has w2 (w.heap.size+1) [.slice none 0 0,.int .i64 0,.int .i64 0,.int .i64 0,.int .i64 0,.int .i64 0,.slice none 0 0,.slice none 0 0]:=by
  exact hasA
 obtain ⟨cH_0,fH_0⟩:=H.2 0 _ rfl
 obtain ⟨cH_1,fH_1⟩:=H.2 1 _ rfl
 obtain ⟨cH_2,fH_2⟩:=H.2 2 _ rfl
 obtain ⟨cH_3,fH_3⟩:=H.2 3 _ rfl
 obtain ⟨cH_4,fH_4⟩:=H.2 4 _ rfl
 obtain ⟨cH_5,fH_5⟩:=H.2 5 _ rfl
 obtain ⟨cH_6,fH_6⟩:=H.2 6 _ rfl
 obtain ⟨cH_7,fH_7⟩:=H.2 7 _ rfl
 go_wp2
 refine bodyPost_ret (v:=roomV x ⟨⟨A0,k0⟩,a1,a2⟩) (by simp [results,Tryz.results14,go_sem,cH_0,cH_1,cH_2,cH_3,cH_4,cH_5,cH_6,cH_7]) rfl ?_
 refine ⟨⟨⟨A0,k0⟩,a1,a2⟩,rfl,⟨?_, ?_, ?_, ?_⟩, ?_⟩
 ·refine New.mono (base:=w.heap.size+1+1+1) ?_ (by omega)
  repeat (first|(with_reducible exact N0)|(with_reducible refine New.low ?_ (by first|(simp;done)|(simp;omega)|omega) _)|(with_reducible refine New.below ?_ (by assumption) leR))
 ·refine RegionNew.mono (base:=w.heap.size+1+1+1) ?_ (by omega)
  repeat (first|(with_reducible exact N1)|(with_reducible refine RegionNew.low ?_ (by first|(simp;done)|(simp;omega)|omega) _)|(with_reducible refine RegionNew.below ?_ (by assumption) leR))
 ·refine RegionNew.mono (base:=w.heap.size+1+1+1) ?_ (by omega)
  repeat (first|(with_reducible exact N2)|(with_reducible refine RegionNew.low ?_ (by first|(simp;done)|(simp;omega)|omega) _)|(with_reducible refine RegionNew.below ?_ (by assumption) leR))
 ·simp only [List.pairwise_cons,List.mem_cons,List.not_mem_nil,or_false,forall_eq_or_imp,forall_eq,false_implies,implies_true,List.Pairwise.nil,and_true]
  exact ⟨⟨Blk.apart (K0) (K1) (by first|(simp;done)|(simp;omega)|omega),Blk.apart (K0) (K2) (by first|(simp;done)|(simp;omega)|omega)⟩,Blk.apart (K1) (K2) (by first|(simp;done)|(simp;omega)|omega)⟩
 ·exact belA
set_option maxRecDepth 100000 in
set_option maxHeartbeats 1000000 in
theorem eqLaw_t (x:Law) (a b:LawA) (w:World) (hn:lawLen x≤1048576) (ha:LawSl w x a) (hb:LawSl w x b) :
 Calls Tryz.prog 17 #[lawV x a,lawV x b] w fun e w'=>e=.returned (.bool true)∧Below w.heap.size w w':=by
 simp only [lawLen] at hn
 go_enter Tryz.func17,Tryz.ntmps17
 go_wp2_with (fail)
 refine (eqPieceS_t a.lows.A b.lows.A x.lows _ _ _ (by omega) (Sl.below ha.lows (by exact belA)) (Sl.below hb.lows (by exact belA))).mono ?_
 rintro e w0 ⟨rfl,hb0⟩
 have r0:=bcell1 hb0
 have l0:w.heap.size<w0.heap.size:=blt hb0 (by first|(simp;done)|(simp;omega)|omega)
 have m0:w.heap.size+1<w0.heap.size:=blt hb0 (by first|(simp;done)|(simp;omega)|omega)
 go_wp2_with (fail)
 refine (eqPieceS_t a.highs.A b.highs.A x.highs _ _ _ (by omega) (Sl.below ha.highs (by exact belA)) (Sl.below hb.highs (by exact belA))).mono ?_
 rintro e w1 ⟨rfl,hb1⟩
 have r1:=bcell1 hb1
 have l1:w.heap.size<w1.heap.size:=blt hb1 (by first|(simp;done)|(simp;omega)|omega)
 have m1:w.heap.size+1<w1.heap.size:=blt hb1 (by first|(simp;done)|(simp;omega)|omega)
 go_wp2
 go_ret
 refine ⟨rfl, ?_⟩
 exact belA
end Go.Proofs.YtdncnhcffbgjhaaGreat
end
