/-
  Further words for regions with calls and allocations.
  Conditions: none.
-/
import Derived.Test.YtbdihgcjopbnjaaBel
import Derived.Test.YtbdihgcjopbnjaaPiece
namespace Go.Proofs.Ytbdihgcjopbnjaa
open Go.RowKit

theorem kq_drew {a w : World} {n : Nat} (h : (∀ b o, b < n → w.cell? ⟨b, o, none⟩ = a.cell? ⟨b, o, none⟩) ∧ n ≤ w.heap.size) :
    (∀ b o', b < n → w.drew.cell? ⟨b, o', none⟩ = a.cell? ⟨b, o', none⟩) ∧ n ≤ w.drew.heap.size := h
theorem kq_self (a : World) {n : Nat} (h : n ≤ a.heap.size) : (∀ b o', b < n → a.cell? ⟨b, o', none⟩ = a.cell? ⟨b, o', none⟩) ∧ n ≤ a.heap.size := ⟨fun _ _ _ => rfl, h⟩
end Go.Proofs.Ytbdihgcjopbnjaa
