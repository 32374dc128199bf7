/-
 The functions on tables: what they return.
 Conditions: the slice of cells holds at most 2^20 ints.
-/
import Derived.Test.YtabfdkpdppemaaaGreatGrC
import Derived.StillTailTactics
namespace Go.Proofs.YtabfdkpdppemaaaGreat
open Go.RowKit
structure Tab where
 x0:Int
 y0:Int
 step:Int
 nx:Int
 ny:Int
 cells:List Int
def Tab.In (t:Tab):Prop:=Yn t.x0/\Yn t.y0/\Yn t.step/\Yn t.nx/\Yn t.ny
theorem XI.low {α:Type} {T sz:Nat} {enc:α->List Value} {w:World} {base:Nat} {v:Value} {xs:List α} (h:XI T sz enc w base v xs) {p:Addr} (hp:p.block<base) (u:Value):XI T sz enc (w.setCell p u) base v xs:=by
 obtain ⟨A,cap,rfl,ho⟩:=h;exact ⟨A,cap,rfl,ownsRow_setCell_below ho hp u⟩
structure X5 (w:World) (base:Nat) (x:List Half) (a:Kd):Prop where
 halves:XI 174 3 Xh w base (.slice a.A (List.length x) a.c) x
theorem X5.sl {w:World} {base:Nat} {x:List Half} {a:Kd} (h:X5 w base x a):JW w x a:=⟨h.halves.out Xu⟩
theorem X5.below {w w':World} {base B:Nat} {x:List Half} {a:Kd} (h:X5 w base x a) (hb:Below B w w') (hB:w.heap.size<=B):X5 w' base x a:=⟨h.halves.below hb hB⟩
theorem X5.mono {w:World} {base base':Nat} {x:List Half} {a:Kd} (h:X5 w base x a) (hb:base'<=base):X5 w base' x a:=⟨h.halves.mono hb⟩
theorem X5.low {w:World} {base:Nat} {x:List Half} {a:Kd} (h:X5 w base x a) {p:Addr} (hp:p.block<base) (u:Value):X5 (w.setCell p u) base x a:=⟨h.halves.low hp u⟩
theorem X5.blk {w:World} {base:Nat} {x:List Half} {a:Kd} (h:X5 w base x a):Blk base w.heap.size a:=h.halves.blk
structure Yb (w:World) (base:Nat) (x:XH) (a:Y7):Prop where
 map:XI 3 1 JA w base (.slice a.map.A (List.length x.map) a.map.c) x.map
 noise:X5 w base x.noise a.noise
 limits:X5 w base x.limits a.limits
 apart:List.Pairwise Z4 [a.map,a.noise,a.limits]
theorem Yb.sl {w:World} {base:Nat} {x:XH} {a:Y7} (h:Yb w base x a):Ke w x a:=⟨h.map.out ZY,h.noise.sl,h.limits.sl⟩
theorem Yb.below {w w':World} {base B:Nat} {x:XH} {a:Y7} (h:Yb w base x a) (hb:Below B w w') (hB:w.heap.size<=B):Yb w' base x a:=⟨h.map.below hb hB,h.noise.below hb hB,h.limits.below hb hB,h.apart⟩
theorem Yb.mono {w:World} {base base':Nat} {x:XH} {a:Y7} (h:Yb w base x a) (hb:base'<=base):Yb w base' x a:=⟨h.map.mono hb,h.noise.mono hb,h.limits.mono hb,h.apart⟩
theorem Yb.low {w:World} {base:Nat} {x:XH} {a:Y7} (h:Yb w base x a) {p:Addr} (hp:p.block<base) (u:Value):Yb (w.setCell p u) base x a:=⟨h.map.low hp u,h.noise.low hp u,h.limits.low hp u,h.apart⟩
theorem Yb.blk {w:World} {base:Nat} {x:XH} {a:Y7} (h:Yb w base x a):Blk base w.heap.size a.map/\Blk base w.heap.size a.noise/\Blk base w.heap.size a.limits:=⟨h.map.blk,h.noise.blk,h.limits.blk⟩
structure Zc (w:World) (base:Nat) (x:Watch) (a:WatchA):Prop where
 room:Yb w base x.room a.room
 reg:X5 w base x.reg a.reg
 log:XI 3 1 JA w base (.slice a.log.A (List.length x.log) a.log.c) x.log
 apart:List.Pairwise Z4 [a.room.map,a.room.noise,a.room.limits,a.reg,a.log]
theorem Zc.sl {w:World} {base:Nat} {x:Watch} {a:WatchA} (h:Zc w base x a):WatchSl w x a:=⟨h.room.sl,h.reg.sl,h.log.out ZY⟩
theorem Zc.below {w w':World} {base B:Nat} {x:Watch} {a:WatchA} (h:Zc w base x a) (hb:Below B w w') (hB:w.heap.size<=B):Zc w' base x a:=⟨h.room.below hb hB,h.reg.below hb hB,h.log.below hb hB,h.apart⟩
theorem Zc.mono {w:World} {base base':Nat} {x:Watch} {a:WatchA} (h:Zc w base x a) (hb:base'<=base):Zc w base' x a:=⟨h.room.mono hb,h.reg.mono hb,h.log.mono hb,h.apart⟩
theorem Zc.low {w:World} {base:Nat} {x:Watch} {a:WatchA} (h:Zc w base x a) {p:Addr} (hp:p.block<base) (u:Value):Zc (w.setCell p u) base x a:=⟨h.room.low hp u,h.reg.low hp u,h.log.low hp u,h.apart⟩
theorem Zc.blk {w:World} {base:Nat} {x:Watch} {a:WatchA} (h:Zc w base x a):Blk base w.heap.size a.room.map/\Blk base w.heap.size a.room.noise/\Blk base w.heap.size a.room.limits/\Blk base w.heap.size a.reg/\Blk base w.heap.size a.log:=⟨h.room.blk.1,h.room.blk.2.1,h.room.blk.2.2,h.reg.blk,h.log.blk⟩
structure Zd (w:World) (base:Nat) (x:Track) (a:TrackA):Prop where
 spots:XI 30 3 Yx w base (.slice a.spots.A (List.length x.spots) a.spots.c) x.spots
 inputs:XI 36 2 ratioC w base (.slice a.inputs.A (List.length x.inputs) a.inputs.c) x.inputs
 apart:List.Pairwise Z4 [a.spots,a.inputs]
theorem Zd.sl {w:World} {base:Nat} {x:Track} {a:TrackA} (h:Zd w base x a):TrackSl w x a:=⟨h.spots.out Kj,h.inputs.out ratioC_len⟩
theorem Zd.below {w w':World} {base B:Nat} {x:Track} {a:TrackA} (h:Zd w base x a) (hb:Below B w w') (hB:w.heap.size<=B):Zd w' base x a:=⟨h.spots.below hb hB,h.inputs.below hb hB,h.apart⟩
theorem Zd.mono {w:World} {base base':Nat} {x:Track} {a:TrackA} (h:Zd w base x a) (hb:base'<=base):Zd w base' x a:=⟨h.spots.mono hb,h.inputs.mono hb,h.apart⟩
theorem Zd.low {w:World} {base:Nat} {x:Track} {a:TrackA} (h:Zd w base x a) {p:Addr} (hp:p.block<base) (u:Value):Zd (w.setCell p u) base x a:=⟨h.spots.low hp u,h.inputs.low hp u,h.apart⟩
theorem Zd.blk {w:World} {base:Nat} {x:Track} {a:TrackA} (h:Zd w base x a):Blk base w.heap.size a.spots/\Blk base w.heap.size a.inputs:=⟨h.spots.blk,h.inputs.blk⟩
structure ZK (w:World) (base:Nat) (x:Law) (a:LawA):Prop where
 lows:XI 109 4 pieceC w base (.slice a.lows.A (List.length x.lows) a.lows.c) x.lows
 highs:XI 109 4 pieceC w base (.slice a.highs.A (List.length x.highs) a.highs.c) x.highs
 apart:List.Pairwise Z4 [a.lows,a.highs]
theorem ZK.sl {w:World} {base:Nat} {x:Law} {a:LawA} (h:ZK w base x a):LawSl w x a:=⟨h.lows.out pieceC_len,h.highs.out pieceC_len⟩
theorem ZK.below {w w':World} {base B:Nat} {x:Law} {a:LawA} (h:ZK w base x a) (hb:Below B w w') (hB:w.heap.size<=B):ZK w' base x a:=⟨h.lows.below hb hB,h.highs.below hb hB,h.apart⟩
theorem ZK.mono {w:World} {base base':Nat} {x:Law} {a:LawA} (h:ZK w base x a) (hb:base'<=base):ZK w base' x a:=⟨h.lows.mono hb,h.highs.mono hb,h.apart⟩
theorem ZK.low {w:World} {base:Nat} {x:Law} {a:LawA} (h:ZK w base x a) {p:Addr} (hp:p.block<base) (u:Value):ZK (w.setCell p u) base x a:=⟨h.lows.low hp u,h.highs.low hp u,h.apart⟩
theorem ZK.blk {w:World} {base:Nat} {x:Law} {a:LawA} (h:ZK w base x a):Blk base w.heap.size a.lows/\Blk base w.heap.size a.highs:=⟨h.lows.blk,h.highs.blk⟩
end Go.Proofs.YtabfdkpdppemaaaGreat
