/-
  Slices that lie apart because they were made one behind the other; what was made, carried over marks.
  Conditions: none.
-/
import Derived.Test.YtbdihgcjopbnjaaMark2
namespace Go.Proofs.Ytbdihgcjopbnjaa
open Go.RowKit

def BlkL (lo hi : Nat) (L : List SlA) : Prop := ∀ a ∈ L, Blk lo hi a
theorem BlkL.ne {lo hi g : Nat} {L : List SlA} (h : BlkL lo hi L) (hg : g < lo ∨ hi ≤ g) : ∀ a ∈ L, ∀ p, a.A = some p → p.block ≠ g := by
  intro a ha p hp
  have := h a ha p hp
  omega
theorem BlkL.lo {lo hi B : Nat} {L : List SlA} (h : BlkL lo hi L) (hB : B ≤ lo) : ∀ a ∈ L, ∀ p, a.A = some p → B ≤ p.block := by
  intro a ha p hp
  have := h a ha p hp
  omega
theorem BlkL.apart {lo hi lo' hi' : Nat} {L L' : List SlA} (h : BlkL lo hi L) (h' : BlkL lo' hi' L') (hle : hi ≤ lo' ∨ hi' ≤ lo) : ∀ a ∈ L, ∀ b ∈ L', Apart a b := by
  intro a ha b hb p q hp hq e
  have := h a ha p hp
  have := h' b hb q hq
  omega
theorem BlkL.mono {lo hi lo' hi' : Nat} {L : List SlA} (h : BlkL lo hi L) (h1 : lo' ≤ lo) (h2 : hi ≤ hi') : BlkL lo' hi' L := by
  intro a ha p hp
  have := h a ha p hp
  omega
theorem New.blkL {α : Type} {T sz base n c : Nat} {enc : α → List Value} {w : World} {A : Option Addr} {xs : List α} (h : New T sz enc w base (.slice A n c) xs) : BlkL base w.heap.size [⟨A, c⟩] := all1 h.blk
theorem New.far1 {α : Type} {T sz base n c : Nat} {enc : α → List Value} {w w' : World} {A : Option Addr} {xs : List α} {L : List SlA} (h : New T sz enc w base (.slice A n c) xs) (ho : OnlyL w w' L) (hap : ∀ a ∈ [(⟨A, c⟩ : SlA)], ∀ b ∈ L, Apart a b) : New T sz enc w' base (.slice A n c) xs :=
  h.far ho (hap _ (List.mem_singleton.2 rfl))
theorem RegionNew.blkL {w : World} {base : Nat} {x : List Half} {a : SlA} (h : RegionNew w base x a) : BlkL base w.heap.size [a] := all1 h.blk
theorem RegionNew.far1 {w w' : World} {base : Nat} {x : List Half} {a : SlA} {L : List SlA} (h : RegionNew w base x a) (ho : OnlyL w w' L) (hap : ∀ c ∈ [a], ∀ b ∈ L, Apart c b) : RegionNew w' base x a :=
  ⟨h.halves.far ho (fun b hb => hap a (by simp) b hb)⟩
theorem RoomNew.blkL {w : World} {base : Nat} {x : Room} {a : RoomA} (h : RoomNew w base x a) : BlkL base w.heap.size [a.map, a.noise, a.limits] := by
  intro b hb
  simp only [List.mem_cons, List.not_mem_nil, or_false] at hb
  obtain ⟨h0, h1, h2⟩ := h.blk
  rcases hb with rfl | rfl | rfl <;> assumption
theorem RoomNew.far1 {w w' : World} {base : Nat} {x : Room} {a : RoomA} {L : List SlA} (h : RoomNew w base x a) (ho : OnlyL w w' L) (hap : ∀ c ∈ [a.map, a.noise, a.limits], ∀ b ∈ L, Apart c b) : RoomNew w' base x a :=
  ⟨h.map.far ho (fun b hb => hap a.map (by simp) b hb), h.noise.far1 ho (fun c hc b hb => hap c (by simp only [List.mem_cons, List.not_mem_nil, or_false] at hc ⊢; grind) b hb), h.limits.far1 ho (fun c hc b hb => hap c (by simp only [List.mem_cons, List.not_mem_nil, or_false] at hc ⊢; grind) b hb), h.apart⟩
theorem WatchNew.blkL {w : World} {base : Nat} {x : Watch} {a : WatchA} (h : WatchNew w base x a) : BlkL base w.heap.size [a.room.map, a.room.noise, a.room.limits, a.reg, a.log] := by
  intro b hb
  simp only [List.mem_cons, List.not_mem_nil, or_false] at hb
  obtain ⟨h0, h1, h2, h3, h4⟩ := h.blk
  rcases hb with rfl | rfl | rfl | rfl | rfl <;> assumption
theorem WatchNew.far1 {w w' : World} {base : Nat} {x : Watch} {a : WatchA} {L : List SlA} (h : WatchNew w base x a) (ho : OnlyL w w' L) (hap : ∀ c ∈ [a.room.map, a.room.noise, a.room.limits, a.reg, a.log], ∀ b ∈ L, Apart c b) : WatchNew w' base x a :=
  ⟨h.room.far1 ho (fun c hc b hb => hap c (by simp only [List.mem_cons, List.not_mem_nil, or_false] at hc ⊢; grind) b hb), h.reg.far1 ho (fun c hc b hb => hap c (by simp only [List.mem_cons, List.not_mem_nil, or_false] at hc ⊢; grind) b hb), h.log.far ho (fun b hb => hap a.log (by simp) b hb), h.apart⟩
theorem TrackNew.blkL {w : World} {base : Nat} {x : Track} {a : TrackA} (h : TrackNew w base x a) : BlkL base w.heap.size [a.spots, a.inputs] := by
  intro b hb
  simp only [List.mem_cons, List.not_mem_nil, or_false] at hb
  obtain ⟨h0, h1⟩ := h.blk
  rcases hb with rfl | rfl <;> assumption
theorem TrackNew.far1 {w w' : World} {base : Nat} {x : Track} {a : TrackA} {L : List SlA} (h : TrackNew w base x a) (ho : OnlyL w w' L) (hap : ∀ c ∈ [a.spots, a.inputs], ∀ b ∈ L, Apart c b) : TrackNew w' base x a :=
  ⟨h.spots.far ho (fun b hb => hap a.spots (by simp) b hb), h.inputs.far ho (fun b hb => hap a.inputs (by simp) b hb), h.apart⟩
theorem LawNew.blkL {w : World} {base : Nat} {x : Law} {a : LawA} (h : LawNew w base x a) : BlkL base w.heap.size [a.lows, a.highs] := by
  intro b hb
  simp only [List.mem_cons, List.not_mem_nil, or_false] at hb
  obtain ⟨h0, h1⟩ := h.blk
  rcases hb with rfl | rfl <;> assumption
theorem LawNew.far1 {w w' : World} {base : Nat} {x : Law} {a : LawA} {L : List SlA} (h : LawNew w base x a) (ho : OnlyL w w' L) (hap : ∀ c ∈ [a.lows, a.highs], ∀ b ∈ L, Apart c b) : LawNew w' base x a :=
  ⟨h.lows.far ho (fun b hb => hap a.lows (by simp) b hb), h.highs.far ho (fun b hb => hap a.highs (by simp) b hb), h.apart⟩
end Go.Proofs.Ytbdihgcjopbnjaa
