/-
  A room in a mode: of the program and of the reference.
  Conditions: the slices hold at most 2^20 elements.
-/
import Derived.Test.YtbdihgcjopbnjaaGreatCopy
import Derived.Test.YtbdihgcjopbnjaaGreatModes
import Derived.RegionTactic
import Derived.ChangeAlike
import Derived.Test.YtbdihgcjopbnjaaGreatGrP
import Derived.Deep.DeepCutAuto
import Derived.Deep.RegionHeld3
namespace Go.Proofs.YtbdihgcjopbnjaaGreat
open Go.RowKit

def setR (x : Room) (lo hi : Int) : Room := ⟨x.map, x.div, x.bx, x.by_, lo, hi, x.noise, x.limits⟩
def room0 : Room := ⟨[], 0, 0, 0, 0, 0, [], []⟩
def modeRoomOk (x : Room) (m : Mode) : Bool := modesOk x [m]
def modeRoom (x : Room) (m : Mode) : Room := if modeRoomOk x m = true then setR x m.low m.high else room0
theorem modeRoom_le (x : Room) (m : Mode) (h : roomLen x ≤ 1048576) : roomLen (modeRoom x m) ≤ 1048576 := by
  unfold modeRoom
  split
  · exact h
  · decide
theorem roomOk_map {x : Room} (h : roomOk x = true) : x.map.length = 4 := by
  simp only [roomOk, turnOk, Bool.and_eq_true] at h
  obtain ⟨m0, m1, m2, m3, e, _⟩ := map_four (by first | exact h.1.1.1.1.1.1.1.1 | exact h.1.1.1.1.1.1.1 | exact h.1.1.1.1.1.1 | exact h.1.1.1.1.1 | exact h.1.1.1.1 | exact h.1.1.1 | exact h.1.1)
  rw [e]; rfl
theorem modes_map {x : Room} {ms : List Mode} (h : modesOk x ms = true) : x.map.length = 4 := by
  simp only [modesOk, Bool.and_eq_true] at h
  exact roomOk_map h.2
theorem Sl.some_ {α : Type} {sz c : Nat} {enc : α → List Value} {w : World} {A : Option Addr} {xs : List α} (h : Sl sz enc w A xs) (h0 : 0 < xs.length) : A = none → c = 0 := by
  intro e
  obtain ⟨b, off, e', _⟩ := h h0
  rw [e] at e'; cases e'
theorem setCell_other_heap (w : World) (p : Addr) (g : Nat) (u : Value) (h : p.block ≠ g) : (w.setCell p u).heap[g]? = w.heap[g]? := heap_setCell_other w p g u (fun e => h (by first | exact e | exact e.symm))
theorem New.ne1 {α : Type} {T sz base n c : Nat} {enc : α → List Value} {w : World} {A : Option Addr} {xs : List α} (h : New T sz enc w base (.slice A n c) xs) {p : Addr} (hp : ∀ q, A = some q → q.block ≠ p.block) (u : Value) : New T sz enc (w.setCell p u) base (.slice A n c) xs := by
  obtain ⟨A', c', e, h1, h2⟩ := h
  refine ⟨A', c', e, h1, ?_⟩
  rcases h2 with h2 | ⟨g, cap', cur, hv, hg, hh, r⟩
  · exact .inl h2
  · refine .inr ⟨g, cap', cur, hv, hg, (setCell_other_heap w p g u (fun e2 => ?_)).trans hh, r⟩
    injection hv with hv _ _
    exact hp ⟨g, 0, none⟩ hv e2.symm
theorem RoomNew.ne1 {w : World} {base : Nat} {x : Room} {a : RoomA} (h : RoomNew w base x a) {p : Addr} (hp : ∀ c ∈ [a.map, a.noise, a.limits], ∀ q, c.A = some q → q.block ≠ p.block) (u : Value) : RoomNew (w.setCell p u) base x a :=
  ⟨h.map.ne1 (hp a.map (by simp)) u, ⟨h.noise.halves.ne1 (hp a.noise (by simp)) u⟩, ⟨h.limits.halves.ne1 (hp a.limits (by simp)) u⟩, h.apart⟩
theorem RoomNew.drew {w : World} {base : Nat} {x : Room} {a : RoomA} (h : RoomNew w base x a) : RoomNew w.drew base x a := ⟨h.map, ⟨h.noise.halves⟩, ⟨h.limits.halves⟩, h.apart⟩
theorem mode_sl {w : World} {g : Nat} {m : Mode} (h : Has w g [.int .i64 m.low, .int .i64 m.high]) : Sl 2 modeC w (some ⟨g, 0, none⟩) [m] := by
  intro _
  refine ⟨g, 0, rfl, h.1, fun i hi j u hu => ?_⟩
  obtain rfl : i = 0 := by simp at hi; omega
  have := h.2 j u hu
  simpa using this.1
end Go.Proofs.YtbdihgcjopbnjaaGreat
