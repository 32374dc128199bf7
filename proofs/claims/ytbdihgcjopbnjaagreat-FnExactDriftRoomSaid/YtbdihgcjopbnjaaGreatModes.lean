/-
  Valid modes: of the program and of the reference.
  Conditions: the slices hold at most 2^20 elements.
-/
import Derived.Test.YtbdihgcjopbnjaaGreatGrQ
namespace Go.Proofs.YtbdihgcjopbnjaaGreat
open Go.RowKit

def modeIn (x : Room) (m : Mode) : Bool := inR m.low x.low x.high && inR m.high m.low x.high
def modesOk (x : Room) (ms : List Mode) : Bool := inR ms.length 1 4 && ms.all (modeIn x) && roomOk x
theorem modes_no {x : Room} {xs : List Mode} {k : Nat} (h : k < xs.length) (hb : modeIn x xs[k] = false) : xs.all (modeIn x) = false := by
  rw [List.all_eq_false]; exact ⟨_, List.getElem_mem h, by rw [hb]; decide⟩
theorem modes_yes {x : Room} {xs : List Mode} (h : ∀ y ∈ xs.take xs.length, modeIn x y = true) : xs.all (modeIn x) = true := by
  rw [List.take_length] at h
  rw [List.all_eq_true]; exact h
theorem modes_all {x : Room} {xs : List Mode} {k : Nat} (h : k < xs.length) (h1 : ∀ y ∈ xs.take k, modeIn x y = true) (h2 : modeIn x xs[k] = true) : ∀ y ∈ xs.take (k + 1), modeIn x y = true := by
  intro y hy
  rw [take_succ' xs k h] at hy
  simp only [List.mem_append, List.mem_singleton] at hy
  rcases hy with hy | rfl
  · exact h1 y hy
  · exact h2
theorem modeIn_iff {x : Room} {m : Mode} : modeIn x m = true ↔ x.low ≤ m.low ∧ m.low ≤ m.high ∧ m.high ≤ x.high := by
  simp only [modeIn, inR, Bool.and_eq_true, decide_eq_true_eq]
  omega

end Go.Proofs.YtbdihgcjopbnjaaGreat
