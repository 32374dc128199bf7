/-
 What the functions that mark results and look whether the marks are held return.
 Conditions: the slices hold at most 2^20 elements.
-/
import Derived.Test.YtdncnhcffbgjhaaGreatGrA
import Derived.Test.YtdncnhcffbgjhaaGreatGrN
section
namespace Go.Proofs.YtdncnhcffbgjhaaGreat
open Go.RowKit
end Go.Proofs.YtdncnhcffbgjhaaGreat
end
section
namespace Go.Proofs.YtdncnhcffbgjhaaGreat
open Go.RowKit
/-- Nothing is changed but the blocks of these slices. -/
structure OnlyL (w w' : World) (L : List SlA) : Prop where
 os : w'.os = w.os
 tape : w'.tape = w.tape
 output : w'.output = w.output
 size : w.heap.size ≤ w'.heap.size
 block : ∀ k, k < w.heap.size → (∀ a ∈ L, ∀ p, a.A = some p → p.block ≠ k) → w'.heap[k]? = w.heap[k]?
theorem OnlyL.refl (w : World) (L : List SlA) : OnlyL w w L := ⟨rfl, rfl, rfl, Nat.le_refl _, fun _ _ _ => rfl⟩
theorem OnlyL.trans {a b c : World} {L : List SlA} (h : OnlyL a b L) (k : OnlyL b c L) : OnlyL a c L :=
 ⟨k.os.trans h.os, k.tape.trans h.tape, k.output.trans h.output, Nat.le_trans h.size k.size, fun i hi hn => (k.block i (Nat.lt_of_lt_of_le hi h.size) hn).trans (h.block i hi hn)⟩
theorem OnlyL.mono {a b : World} {L L' : List SlA} (h : OnlyL a b L) (hs : ∀ x ∈ L, x ∈ L') : OnlyL a b L' :=
 ⟨h.os, h.tape, h.output, h.size, fun i hi hn => h.block i hi (fun x hx => hn x (hs x hx))⟩
theorem OnlyL.below {a b : World} {L : List SlA} {B : Nat} (h : OnlyL a b L) (hB : B ≤ a.heap.size) (hL : ∀ x ∈ L, ∀ p, x.A = some p → B ≤ p.block) : Below B a b :=
 ⟨h.os, h.tape, h.output, h.size, fun i hi => h.block i (Nat.lt_of_lt_of_le hi hB) (fun x hx p hp e => by have := hL x hx p hp; omega)⟩
theorem OnlyL.setCells {w : World} {g c : Nat} : ∀ (vs : List Value) (o : Nat) (W : World), OnlyL w W [⟨some ⟨g, 0, none⟩, c⟩] → OnlyL w (W.setCells g o vs) [⟨some ⟨g, 0, none⟩, c⟩]
 | [], _, _, h => h
 | v :: r, o, W, h => OnlyL.setCells r (o + 1) _ (h.trans ⟨rfl, rfl, rfl, by simp [World.setCell], fun k _ hk => heap_setCell_other W ⟨g, o, none⟩ k v (fun e => by
   have := hk _ (List.mem_singleton.2 rfl) _ rfl
   simp only [ne_eq] at this
   first | exact this e | exact this e.symm)⟩)
theorem New.lo {α : Type} {T sz base n c : Nat} {enc : α → List Value} {w : World} {A : Option Addr} {xs : List α} (h : New T sz enc w base (.slice A n c) xs) : ∀ p, A = some p → base ≤ p.block := fun p hp => (h.blk p hp).1
theorem New.same {α : Type} {T sz base n : Nat} {enc : α → List Value} {w : World} {v : Value} {xs : List α} (h : New T sz enc w base v xs) (hl : xs.length = n) : ∃ A c, v = .slice A n c ∧ New T sz enc w base (.slice A n c) xs := by
 obtain ⟨A, c, rfl, ho⟩ := h
 subst hl
 exact ⟨A, c, rfl, A, c, rfl, ho⟩
theorem OnlyL.cell {w w' : World} {L : List SlA} (h : OnlyL w w' L) {g : Nat} (hg : g < w.heap.size) (hn : ∀ a ∈ L, ∀ p, a.A = some p → p.block ≠ g) : ∀ o, w'.cell? ⟨g, o, none⟩ = w.cell? ⟨g, o, none⟩ :=
 fun o => World.cell?_of_block (w := w) (a := ⟨g, o, none⟩) (h.block g hg hn)
theorem Blk.lo {lo hi B : Nat} {a : SlA} (h : Blk lo hi a) (hB : B ≤ lo) : ∀ p, a.A = some p → B ≤ p.block := fun p hp => by have := h p hp; omega
theorem all1 {α : Type} {P : α → Prop} {a : α} (h : P a) : ∀ x ∈ [a], P x := fun x hx => by rw [List.mem_singleton.1 hx]; exact h
def markInts (k : Int) (n : Nat) : List Int := (List.range n).map fun (i : Nat) => k + i
/-- The slices of a room hold marks. -/
structure RoomMk (w : World) (x : Room) (a : RoomA) (K : Int) : Prop where
 map : Sl 1 intC w a.map.A (markInts K x.map.length)
 noise : Sl 3 halfC w a.noise.A (markHalfs (K + x.map.length) x.noise.length)
 limits : Sl 3 halfC w a.limits.A (markHalfs (K + x.map.length + x.noise.length * 3) x.limits.length)
theorem RoomMk.below {w w' : World} {x : Room} {a : RoomA} {K : Int} (h : RoomMk w x a K) (hb : Below w.heap.size w w') : RoomMk w' x a K := ⟨h.map.below hb, h.noise.below hb, h.limits.below hb⟩
end Go.Proofs.YtdncnhcffbgjhaaGreat
end
section
namespace Go.Proofs.YtdncnhcffbgjhaaGreat
open Go.RowKit
def BlkL (lo hi : Nat) (L : List SlA) : Prop := ∀ a ∈ L, Blk lo hi a
theorem BlkL.ne {lo hi g : Nat} {L : List SlA} (h : BlkL lo hi L) (hg : g < lo ∨ hi ≤ g) : ∀ a ∈ L, ∀ p, a.A = some p → p.block ≠ g := by
 intro a ha p hp
 have := h a ha p hp
 omega
theorem BlkL.lo {lo hi B : Nat} {L : List SlA} (h : BlkL lo hi L) (hB : B ≤ lo) : ∀ a ∈ L, ∀ p, a.A = some p → B ≤ p.block := by
 intro a ha p hp
 have := h a ha p hp
 omega
theorem BlkL.apart {lo hi lo' hi' : Nat} {L L' : List SlA} (h : BlkL lo hi L) (h' : BlkL lo' hi' L') (hle : hi ≤ lo' ∨ hi' ≤ lo) : ∀ a ∈ L, ∀ b ∈ L', Apart a b := by
 intro a ha b hb p q hp hq e
 have := h a ha p hp
 have := h' b hb q hq
 omega
theorem BlkL.mono {lo hi lo' hi' : Nat} {L : List SlA} (h : BlkL lo hi L) (h1 : lo' ≤ lo) (h2 : hi ≤ hi') : BlkL lo' hi' L := by
 intro a ha p hp
 have := h a ha p hp
 omega
theorem New.blkL {α : Type} {T sz base n c : Nat} {enc : α → List Value} {w : World} {A : Option Addr} {xs : List α} (h : New T sz enc w base (.slice A n c) xs) : BlkL base w.heap.size [⟨A, c⟩] := all1 h.blk
theorem RegionNew.blkL {w : World} {base : Nat} {x : List Half} {a : SlA} (h : RegionNew w base x a) : BlkL base w.heap.size [a] := all1 h.blk
theorem RoomNew.blkL {w : World} {base : Nat} {x : Room} {a : RoomA} (h : RoomNew w base x a) : BlkL base w.heap.size [a.map, a.noise, a.limits] := by
 intro b hb
 simp only [List.mem_cons, List.not_mem_nil, or_false] at hb
 obtain ⟨h0, h1, h2⟩ := h.blk
 rcases hb with rfl | rfl | rfl <;> assumption
theorem WatchNew.blkL {w : World} {base : Nat} {x : Watch} {a : WatchA} (h : WatchNew w base x a) : BlkL base w.heap.size [a.room.map, a.room.noise, a.room.limits, a.reg, a.log] := by
 intro b hb
 simp only [List.mem_cons, List.not_mem_nil, or_false] at hb
 obtain ⟨h0, h1, h2, h3, h4⟩ := h.blk
 rcases hb with rfl | rfl | rfl | rfl | rfl <;> assumption
theorem TrackNew.blkL {w : World} {base : Nat} {x : Track} {a : TrackA} (h : TrackNew w base x a) : BlkL base w.heap.size [a.spots, a.inputs] := by
 intro b hb
 simp only [List.mem_cons, List.not_mem_nil, or_false] at hb
 obtain ⟨h0, h1⟩ := h.blk
 rcases hb with rfl | rfl <;> assumption
theorem LawNew.blkL {w : World} {base : Nat} {x : Law} {a : LawA} (h : LawNew w base x a) : BlkL base w.heap.size [a.lows, a.highs] := by
 intro b hb
 simp only [List.mem_cons, List.not_mem_nil, or_false] at hb
 obtain ⟨h0, h1⟩ := h.blk
 rcases hb with rfl | rfl <;> assumption
end Go.Proofs.YtdncnhcffbgjhaaGreat
end
