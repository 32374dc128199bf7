/-
  Regions, rooms, watches, tracks and laws whose slices the call has made.
  Conditions: the slices hold at most 2^20 elements.
-/
import Derived.Test.YtbdihgcjopbnjaaComp
import Derived.Test.YtbdihgcjopbnjaaConvT
namespace Go.Proofs.Ytbdihgcjopbnjaa
open Go.RowKit

structure RegionNew (w : World) (base : Nat) (x : List Half) (a : SlA) : Prop where
  halves : New 177 3 halfC w base (.slice a.A (List.length x) a.c) x
theorem RegionNew.sl {w : World} {base : Nat} {x : List Half} {a : SlA} (h : RegionNew w base x a) : RegionSl w x a := ⟨h.halves.out halfC_len⟩
theorem RegionNew.below {w w' : World} {base B : Nat} {x : List Half} {a : SlA} (h : RegionNew w base x a) (hb : Below B w w') (hB : w.heap.size ≤ B) : RegionNew w' base x a := ⟨h.halves.below hb hB⟩
theorem RegionNew.mono {w : World} {base base' : Nat} {x : List Half} {a : SlA} (h : RegionNew w base x a) (hb : base' ≤ base) : RegionNew w base' x a := ⟨h.halves.mono hb⟩
theorem RegionNew.low {w : World} {base : Nat} {x : List Half} {a : SlA} (h : RegionNew w base x a) {p : Addr} (hp : p.block < base) (u : Value) : RegionNew (w.setCell p u) base x a := ⟨h.halves.low hp u⟩
theorem RegionNew.blk {w : World} {base : Nat} {x : List Half} {a : SlA} (h : RegionNew w base x a) : Blk base w.heap.size a := h.halves.blk
structure RoomNew (w : World) (base : Nat) (x : Room) (a : RoomA) : Prop where
  map : New 3 1 intC w base (.slice a.map.A (List.length x.map) a.map.c) x.map
  noise : RegionNew w base x.noise a.noise
  limits : RegionNew w base x.limits a.limits
  apart : List.Pairwise Apart [a.map, a.noise, a.limits]
theorem RoomNew.sl {w : World} {base : Nat} {x : Room} {a : RoomA} (h : RoomNew w base x a) : RoomSl w x a := ⟨h.map.out intC_len, h.noise.sl, h.limits.sl⟩
theorem RoomNew.below {w w' : World} {base B : Nat} {x : Room} {a : RoomA} (h : RoomNew w base x a) (hb : Below B w w') (hB : w.heap.size ≤ B) : RoomNew w' base x a := ⟨h.map.below hb hB, h.noise.below hb hB, h.limits.below hb hB, h.apart⟩
theorem RoomNew.mono {w : World} {base base' : Nat} {x : Room} {a : RoomA} (h : RoomNew w base x a) (hb : base' ≤ base) : RoomNew w base' x a := ⟨h.map.mono hb, h.noise.mono hb, h.limits.mono hb, h.apart⟩
theorem RoomNew.low {w : World} {base : Nat} {x : Room} {a : RoomA} (h : RoomNew w base x a) {p : Addr} (hp : p.block < base) (u : Value) : RoomNew (w.setCell p u) base x a := ⟨h.map.low hp u, h.noise.low hp u, h.limits.low hp u, h.apart⟩
theorem RoomNew.blk {w : World} {base : Nat} {x : Room} {a : RoomA} (h : RoomNew w base x a) : Blk base w.heap.size a.map ∧ Blk base w.heap.size a.noise ∧ Blk base w.heap.size a.limits := ⟨h.map.blk, h.noise.blk, h.limits.blk⟩
structure WatchNew (w : World) (base : Nat) (x : Watch) (a : WatchA) : Prop where
  room : RoomNew w base x.room a.room
  reg : RegionNew w base x.reg a.reg
  log : New 3 1 intC w base (.slice a.log.A (List.length x.log) a.log.c) x.log
  apart : List.Pairwise Apart [a.room.map, a.room.noise, a.room.limits, a.reg, a.log]
theorem WatchNew.sl {w : World} {base : Nat} {x : Watch} {a : WatchA} (h : WatchNew w base x a) : WatchSl w x a := ⟨h.room.sl, h.reg.sl, h.log.out intC_len⟩
theorem WatchNew.below {w w' : World} {base B : Nat} {x : Watch} {a : WatchA} (h : WatchNew w base x a) (hb : Below B w w') (hB : w.heap.size ≤ B) : WatchNew w' base x a := ⟨h.room.below hb hB, h.reg.below hb hB, h.log.below hb hB, h.apart⟩
theorem WatchNew.mono {w : World} {base base' : Nat} {x : Watch} {a : WatchA} (h : WatchNew w base x a) (hb : base' ≤ base) : WatchNew w base' x a := ⟨h.room.mono hb, h.reg.mono hb, h.log.mono hb, h.apart⟩
theorem WatchNew.low {w : World} {base : Nat} {x : Watch} {a : WatchA} (h : WatchNew w base x a) {p : Addr} (hp : p.block < base) (u : Value) : WatchNew (w.setCell p u) base x a := ⟨h.room.low hp u, h.reg.low hp u, h.log.low hp u, h.apart⟩
theorem WatchNew.blk {w : World} {base : Nat} {x : Watch} {a : WatchA} (h : WatchNew w base x a) : Blk base w.heap.size a.room.map ∧ Blk base w.heap.size a.room.noise ∧ Blk base w.heap.size a.room.limits ∧ Blk base w.heap.size a.reg ∧ Blk base w.heap.size a.log := ⟨h.room.blk.1, h.room.blk.2.1, h.room.blk.2.2, h.reg.blk, h.log.blk⟩
structure TrackNew (w : World) (base : Nat) (x : Track) (a : TrackA) : Prop where
  spots : New 65 3 spotC w base (.slice a.spots.A (List.length x.spots) a.spots.c) x.spots
  inputs : New 41 2 ratioC w base (.slice a.inputs.A (List.length x.inputs) a.inputs.c) x.inputs
  apart : List.Pairwise Apart [a.spots, a.inputs]
theorem TrackNew.sl {w : World} {base : Nat} {x : Track} {a : TrackA} (h : TrackNew w base x a) : TrackSl w x a := ⟨h.spots.out spotC_len, h.inputs.out ratioC_len⟩
theorem TrackNew.below {w w' : World} {base B : Nat} {x : Track} {a : TrackA} (h : TrackNew w base x a) (hb : Below B w w') (hB : w.heap.size ≤ B) : TrackNew w' base x a := ⟨h.spots.below hb hB, h.inputs.below hb hB, h.apart⟩
theorem TrackNew.mono {w : World} {base base' : Nat} {x : Track} {a : TrackA} (h : TrackNew w base x a) (hb : base' ≤ base) : TrackNew w base' x a := ⟨h.spots.mono hb, h.inputs.mono hb, h.apart⟩
theorem TrackNew.low {w : World} {base : Nat} {x : Track} {a : TrackA} (h : TrackNew w base x a) {p : Addr} (hp : p.block < base) (u : Value) : TrackNew (w.setCell p u) base x a := ⟨h.spots.low hp u, h.inputs.low hp u, h.apart⟩
theorem TrackNew.blk {w : World} {base : Nat} {x : Track} {a : TrackA} (h : TrackNew w base x a) : Blk base w.heap.size a.spots ∧ Blk base w.heap.size a.inputs := ⟨h.spots.blk, h.inputs.blk⟩
structure LawNew (w : World) (base : Nat) (x : Law) (a : LawA) : Prop where
  lows : New 193 4 pieceC w base (.slice a.lows.A (List.length x.lows) a.lows.c) x.lows
  highs : New 193 4 pieceC w base (.slice a.highs.A (List.length x.highs) a.highs.c) x.highs
  apart : List.Pairwise Apart [a.lows, a.highs]
theorem LawNew.sl {w : World} {base : Nat} {x : Law} {a : LawA} (h : LawNew w base x a) : LawSl w x a := ⟨h.lows.out pieceC_len, h.highs.out pieceC_len⟩
theorem LawNew.below {w w' : World} {base B : Nat} {x : Law} {a : LawA} (h : LawNew w base x a) (hb : Below B w w') (hB : w.heap.size ≤ B) : LawNew w' base x a := ⟨h.lows.below hb hB, h.highs.below hb hB, h.apart⟩
theorem LawNew.mono {w : World} {base base' : Nat} {x : Law} {a : LawA} (h : LawNew w base x a) (hb : base' ≤ base) : LawNew w base' x a := ⟨h.lows.mono hb, h.highs.mono hb, h.apart⟩
theorem LawNew.low {w : World} {base : Nat} {x : Law} {a : LawA} (h : LawNew w base x a) {p : Addr} (hp : p.block < base) (u : Value) : LawNew (w.setCell p u) base x a := ⟨h.lows.low hp u, h.highs.low hp u, h.apart⟩
theorem LawNew.blk {w : World} {base : Nat} {x : Law} {a : LawA} (h : LawNew w base x a) : Blk base w.heap.size a.lows ∧ Blk base w.heap.size a.highs := ⟨h.lows.blk, h.highs.blk⟩
end Go.Proofs.Ytbdihgcjopbnjaa
