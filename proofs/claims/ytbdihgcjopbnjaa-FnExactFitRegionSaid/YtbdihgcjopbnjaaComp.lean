/-
  Regions, rooms, watches, tracks and laws: plain data, and how they lie in memory.
  Conditions: the slices hold at most 2^20 elements.
-/
import Derived.Test.YtbdihgcjopbnjaaStr
import Derived.Test.YtbdihgcjopbnjaaBel
namespace Go.Proofs.Ytbdihgcjopbnjaa
open Go.RowKit

/-- Where a slice lies: its address and its capacity. -/
structure SlA where
  A : Option Addr
  c : Nat
/-- Two slices do not share a block. -/
def Apart (A B : SlA) : Prop := ∀ p q, A.A = some p → B.A = some q → p.block ≠ q.block
def Blk (lo hi : Nat) (A : SlA) : Prop := ∀ p, A.A = some p → lo ≤ p.block ∧ p.block < hi
theorem Blk.apart {lo hi lo' hi' : Nat} {A B : SlA} (h : Blk lo hi A) (h' : Blk lo' hi' B) (hle : hi ≤ lo') : Apart A B := by
  intro p q hp hq e
  have := h p hp
  have := h' q hq
  omega
theorem Apart.symm {A B : SlA} (h : Apart A B) : Apart B A := fun p q hp hq e => h q p hq hp e.symm
theorem New.blk {α : Type} {T sz base n c : Nat} {enc : α → List Value} {w : World} {A : Option Addr} {xs : List α} (h : New T sz enc w base (.slice A n c) xs) : Blk base w.heap.size ⟨A, c⟩ := by
  obtain ⟨A', c', e, h1, h2⟩ := h
  intro p hp
  subst hp
  rcases h2 with ⟨h2, _⟩ | ⟨g, cap', cur, hv, hg, hh, r⟩
  · cases h2
  · injection hv with hv _ _
    injection hv with hv
    subst hv
    refine ⟨hg, ?_⟩
    rcases Nat.lt_or_ge g w.heap.size with hlt | hge
    · exact hlt
    · rw [Array.getElem?_eq_none hge] at hh; cases hh

abbrev regionV (x : List Half) (a : SlA) : Value := .agg #[.slice a.A (List.length x) a.c]
def regionLen (x : List Half) : Nat := List.length x
structure RegionIn (x : List Half) : Prop where
  halves : ∀ y ∈ x, Half.In y
structure RegionSl (w : World) (x : List Half) (a : SlA) : Prop where
  halves : Sl 3 halfC w a.A x
theorem RegionSl.below {w w' : World} {x : List Half} {a : SlA} (h : RegionSl w x a) (hb : Below w.heap.size w w') : RegionSl w' x a := ⟨h.halves.below hb⟩
structure Room where
  map : List Int
  div : Int
  bx : Int
  by_ : Int
  low : Int
  high : Int
  noise : List Half
  limits : List Half
structure RoomA where
  map : SlA
  noise : SlA
  limits : SlA
abbrev roomV (x : Room) (a : RoomA) : Value := .agg #[.slice a.map.A (List.length x.map) a.map.c, .int .i64 x.div, .int .i64 x.bx, .int .i64 x.by_, .int .i64 x.low, .int .i64 x.high, .slice a.noise.A (List.length x.noise) a.noise.c, .slice a.limits.A (List.length x.limits) a.limits.c]
def roomLen (x : Room) : Nat := List.length x.map + List.length x.noise + List.length x.limits
structure RoomIn (x : Room) : Prop where
  map : ∀ y ∈ x.map, In64 y
  div : In64 x.div
  bx : In64 x.bx
  by_ : In64 x.by_
  low : In64 x.low
  high : In64 x.high
  noise : RegionIn x.noise
  limits : RegionIn x.limits
structure RoomSl (w : World) (x : Room) (a : RoomA) : Prop where
  map : Sl 1 intC w a.map.A x.map
  noise : RegionSl w x.noise a.noise
  limits : RegionSl w x.limits a.limits
theorem RoomSl.below {w w' : World} {x : Room} {a : RoomA} (h : RoomSl w x a) (hb : Below w.heap.size w w') : RoomSl w' x a := ⟨h.map.below hb, h.noise.below hb, h.limits.below hb⟩
structure Watch where
  room : Room
  reg : List Half
  log : List Int
structure WatchA where
  room : RoomA
  reg : SlA
  log : SlA
abbrev watchV (x : Watch) (a : WatchA) : Value := .agg #[.slice a.room.map.A (List.length x.room.map) a.room.map.c, .int .i64 x.room.div, .int .i64 x.room.bx, .int .i64 x.room.by_, .int .i64 x.room.low, .int .i64 x.room.high, .slice a.room.noise.A (List.length x.room.noise) a.room.noise.c, .slice a.room.limits.A (List.length x.room.limits) a.room.limits.c, .slice a.reg.A (List.length x.reg) a.reg.c, .slice a.log.A (List.length x.log) a.log.c]
def watchLen (x : Watch) : Nat := List.length x.room.map + List.length x.room.noise + List.length x.room.limits + List.length x.reg + List.length x.log
structure WatchIn (x : Watch) : Prop where
  room : RoomIn x.room
  reg : RegionIn x.reg
  log : ∀ y ∈ x.log, In64 y
structure WatchSl (w : World) (x : Watch) (a : WatchA) : Prop where
  room : RoomSl w x.room a.room
  reg : RegionSl w x.reg a.reg
  log : Sl 1 intC w a.log.A x.log
theorem WatchSl.below {w w' : World} {x : Watch} {a : WatchA} (h : WatchSl w x a) (hb : Below w.heap.size w w') : WatchSl w' x a := ⟨h.room.below hb, h.reg.below hb, h.log.below hb⟩
structure Track where
  spots : List Spot
  inputs : List Ratio
structure TrackA where
  spots : SlA
  inputs : SlA
abbrev trackV (x : Track) (a : TrackA) : Value := .agg #[.slice a.spots.A (List.length x.spots) a.spots.c, .slice a.inputs.A (List.length x.inputs) a.inputs.c]
def trackLen (x : Track) : Nat := List.length x.spots + List.length x.inputs
structure TrackIn (x : Track) : Prop where
  spots : ∀ y ∈ x.spots, Spot.In y
  inputs : ∀ y ∈ x.inputs, Ratio.In y
structure TrackSl (w : World) (x : Track) (a : TrackA) : Prop where
  spots : Sl 3 spotC w a.spots.A x.spots
  inputs : Sl 2 ratioC w a.inputs.A x.inputs
theorem TrackSl.below {w w' : World} {x : Track} {a : TrackA} (h : TrackSl w x a) (hb : Below w.heap.size w w') : TrackSl w' x a := ⟨h.spots.below hb, h.inputs.below hb⟩
structure Law where
  lows : List Piece
  highs : List Piece
structure LawA where
  lows : SlA
  highs : SlA
abbrev lawV (x : Law) (a : LawA) : Value := .agg #[.slice a.lows.A (List.length x.lows) a.lows.c, .slice a.highs.A (List.length x.highs) a.highs.c]
def lawLen (x : Law) : Nat := List.length x.lows + List.length x.highs
structure LawIn (x : Law) : Prop where
  lows : ∀ y ∈ x.lows, Piece.In y
  highs : ∀ y ∈ x.highs, Piece.In y
structure LawSl (w : World) (x : Law) (a : LawA) : Prop where
  lows : Sl 4 pieceC w a.lows.A x.lows
  highs : Sl 4 pieceC w a.highs.A x.highs
theorem LawSl.below {w w' : World} {x : Law} {a : LawA} (h : LawSl w x a) (hb : Below w.heap.size w w') : LawSl w' x a := ⟨h.lows.below hb, h.highs.below hb⟩
end Go.Proofs.Ytbdihgcjopbnjaa
