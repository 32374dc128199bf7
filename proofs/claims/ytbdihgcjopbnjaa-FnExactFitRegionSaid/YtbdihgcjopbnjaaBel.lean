/-
  Short words for walks: the cells of older blocks behind a chain of calls.
  Conditions: none.
-/
import Derived.Test.YtbdihgcjopbnjaaBase
namespace Go.Proofs.Ytbdihgcjopbnjaa
open Go.RowKit

theorem New.out {α : Type} {T sz base n cap : Nat} {enc : α → List Value} {w : World} {A : Option Addr} {xs : List α} (h : New T sz enc w base (.slice A n cap) xs) (hsz : ∀ x, (enc x).length = sz) : Sl sz enc w A xs := by
  obtain ⟨A', cap', e, hs⟩ := h.sl hsz
  injection e with e1 _ _
  subst e1
  exact hs

/-- The cells and the size, as a region with calls keeps them. -/
theorem kq_step {a w w' : World} (h : (∀ b o, b < a.heap.size → w.cell? ⟨b, o, none⟩ = a.cell? ⟨b, o, none⟩) ∧ a.heap.size ≤ w.heap.size) (hb : Below w.heap.size w w') :
    (∀ b o, b < a.heap.size → w'.cell? ⟨b, o, none⟩ = a.cell? ⟨b, o, none⟩) ∧ a.heap.size ≤ w'.heap.size :=
  ⟨fun b o hlt => (hb.cell (p := ⟨b, o, none⟩) (Nat.lt_of_lt_of_le hlt h.2)).trans (h.1 b o hlt), Nat.le_trans h.2 hb.size⟩

theorem kq_step2 {a w w' : World} {n : Nat} (h : (∀ b o, b < n → w.cell? ⟨b, o, none⟩ = a.cell? ⟨b, o, none⟩) ∧ n ≤ w.heap.size) (hb : Below w.heap.size w w') :
    (∀ b o, b < n → w'.cell? ⟨b, o, none⟩ = a.cell? ⟨b, o, none⟩) ∧ n ≤ w'.heap.size :=
  ⟨fun b o hlt => (hb.cell (p := ⟨b, o, none⟩) (Nat.lt_of_lt_of_le hlt h.2)).trans (h.1 b o hlt), Nat.le_trans h.2 hb.size⟩

theorem kq_alloc {a w : World} {n : Nat} (h : (∀ b o, b < n → w.cell? ⟨b, o, none⟩ = a.cell? ⟨b, o, none⟩) ∧ n ≤ w.heap.size) (o : Obj) :
    (∀ b o', b < n → (w.alloc o).cell? ⟨b, o', none⟩ = a.cell? ⟨b, o', none⟩) ∧ n ≤ (w.alloc o).heap.size :=
  kq_step2 h (below_al (Below.refl _ _) o)
theorem kq_set {a w : World} {n : Nat} (h : (∀ b o, b < n → w.cell? ⟨b, o, none⟩ = a.cell? ⟨b, o, none⟩) ∧ n ≤ w.heap.size) {p : Addr} (hp : n ≤ p.block) (u : Value) :
    (∀ b o', b < n → (w.setCell p u).cell? ⟨b, o', none⟩ = a.cell? ⟨b, o', none⟩) ∧ n ≤ (w.setCell p u).heap.size :=
  ⟨fun b o hlt => (World.cell?_setCell_other w p ⟨b, o, none⟩ u (fun e => by rw [e] at hp; simp only at hp; omega)).trans (h.1 b o hlt), by simpa using h.2⟩
theorem Has.new_at {g : Nat} {vs : List Value} {w : World} (h : g = w.heap.size) (cs : Array Value) (T : TypeId) (hv : cs.toList = vs) : Has (w.alloc (.cells cs T)) g vs := by
  subst h hv
  exact Has.new w cs T

theorem bcell1 {W w1 : World} (hb : Below W.heap.size W w1) : ∀ b o, b < W.heap.size → w1.cell? ⟨b, o, none⟩ = W.cell? ⟨b, o, none⟩ :=
  fun b o h => hb.cell (p := ⟨b, o, none⟩) h
theorem blt {W w1 : World} (hb : Below W.heap.size W w1) {g : Nat} (h : g < W.heap.size) : g < w1.heap.size := Nat.lt_of_lt_of_le h hb.size
end Go.Proofs.Ytbdihgcjopbnjaa
