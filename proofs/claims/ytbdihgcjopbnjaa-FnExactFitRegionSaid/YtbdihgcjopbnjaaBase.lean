/-
  Words on memory that the contracts of this claim use: a slice that reads as a list of structs, a slice of the call's own.
  Conditions: none.
-/
import Derived.Test.YtbdihgcjopbnjaaRows
import Derived.WalkKit
import Derived.WalkSpells
import Derived.WalkLawsBesides
import Derived.Deep.Draws
import Derived.Lib.Hide
import Derived.Deep.Slices
import Derived.Deep.Fields
import Derived.ChangeSame
namespace Go.Proofs.Ytbdihgcjopbnjaa
open Go.RowKit

/-- The slice's address A leads to cells that read as the encodings of xs, each of sz cells. -/
def Sl {α : Type} (sz : Nat) (enc : α → List Value) (w : World) (A : Option Addr) (xs : List α) : Prop :=
  0 < xs.length → ∃ b off, A = some ⟨b, off, none⟩ ∧ b < w.heap.size ∧
    ∀ i (h : i < xs.length) j u, (enc xs[i])[j]? = some u → w.cell? ⟨b, off + i * sz + j, none⟩ = some u

section
variable {α : Type} {sz : Nat} {enc : α → List Value} {w w' : World} {A : Option Addr} {xs : List α}

theorem Sl.keep (h : Sl sz enc w A xs) {B : Nat} (hs : w.heap.size ≤ w'.heap.size) (hA : ∀ b off, A = some ⟨b, off, none⟩ → b < B) (hk : ∀ p : Addr, p.block < B → w'.cell? p = w.cell? p) : Sl sz enc w' A xs := by
  intro hn
  obtain ⟨b, off, rfl, hlt, hc⟩ := h hn
  exact ⟨b, off, rfl, Nat.lt_of_lt_of_le hlt hs, fun i hi j u hu => (hk ⟨b, off + i * sz + j, none⟩ (hA _ _ rfl)).trans (hc i hi j u hu)⟩

theorem Sl.below (h : Sl sz enc w A xs) (hb : Below w.heap.size w w') : Sl sz enc w' A xs := by
  intro hn
  obtain ⟨b, off, rfl, hlt, hc⟩ := h hn
  exact ⟨b, off, rfl, Nat.lt_of_lt_of_le hlt hb.size, fun i hi j u hu => (hb.cell (p := ⟨b, off + i * sz + j, none⟩) hlt).trans (hc i hi j u hu)⟩

theorem Sl.alloc (h : Sl sz enc w A xs) (o : Obj) : Sl sz enc (w.alloc o) A xs := h.below ((Below.refl _ _).alloc (Nat.le_refl _) o)
theorem Sl.drew (h : Sl sz enc w A xs) : Sl sz enc w.drew A xs := h
theorem Sl.drewN (h : Sl sz enc w A xs) (n : Nat) : Sl sz enc (w.drewN n) A xs := h

/-- The cells of element k, for a round of a loop. -/
theorem Sl.at_ (h : Sl sz enc w A xs) {k : Nat} (hk : k < xs.length) :
    ∃ b off, A = some ⟨b, off, none⟩ ∧ b < w.heap.size ∧ ∀ j u, (enc xs[k])[j]? = some u → w.cell? ⟨b, off + k * sz + j, none⟩ = some u := by
  obtain ⟨b, off, hA, hb, hc⟩ := h (by omega)
  exact ⟨b, off, hA, hb, fun j u hu => hc k hk j u hu⟩
end

theorem flatMap_len {α : Type} {sz : Nat} {enc : α → List Value} (hsz : ∀ x, (enc x).length = sz) : ∀ xs : List α, (xs.flatMap enc).length = xs.length * sz
  | [] => by simp
  | x :: r => by simp only [List.flatMap_cons, List.length_append, hsz, flatMap_len hsz r, List.length_cons, Nat.succ_mul]; omega

theorem flatMap_at {α : Type} {sz : Nat} {enc : α → List Value} (hsz : ∀ x, (enc x).length = sz) : ∀ (xs : List α) (i : Nat) (h : i < xs.length) (j : Nat) (u : Value), (enc xs[i])[j]? = some u → (xs.flatMap enc)[i * sz + j]? = some u
  | x :: r, 0, _, j, u, hu => by
    have hj : j < (enc x).length := by
      rcases Nat.lt_or_ge j (enc x).length with h | h
      · exact h
      · simp only [List.getElem_cons_zero] at hu; rw [List.getElem?_eq_none h] at hu; cases hu
    simp only [List.getElem_cons_zero] at hu
    simp only [Nat.zero_mul, Nat.zero_add, List.flatMap_cons]
    rw [List.getElem?_append_left hj]; exact hu
  | x :: r, i + 1, h, j, u, hu => by
    have hu' : (enc (r[i]'(by simpa using h)))[j]? = some u := by simpa using hu
    have := flatMap_at hsz r i (by simpa using h) j u hu'
    simp only [List.flatMap_cons, Nat.succ_mul]
    rw [List.getElem?_append_right (by rw [hsz]; omega), hsz]
    rw [← this]; congr 1; omega

/-- A slice that the call made: it owns its cells, which are the encodings of xs. -/
def New {α : Type} (T sz : Nat) (enc : α → List Value) (w : World) (base : Nat) (v : Value) (xs : List α) : Prop :=
  ∃ A cap, v = .slice A xs.length cap ∧ w.ownsRow base T sz v xs.length (xs.flatMap enc)

section
variable {α : Type} {T sz : Nat} {enc : α → List Value} {w w' : World} {v : Value} {xs : List α} {base : Nat}

theorem New.below {B : Nat} (h : New T sz enc w base v xs) (hb : Below B w w') (hB : w.heap.size ≤ B) : New T sz enc w' base v xs := by
  obtain ⟨A, cap, rfl, h1, h2⟩ := h
  refine ⟨A, cap, rfl, h1, ?_⟩
  rcases h2 with h2 | ⟨g, cap', cur, hv, hg, hh, r⟩
  · exact .inl h2
  · have hlt : g < w.heap.size := by
      rcases Nat.lt_or_ge g w.heap.size with hlt | hge
      · exact hlt
      · rw [Array.getElem?_eq_none hge] at hh; cases hh
    exact .inr ⟨g, cap', cur, hv, hg, (hb.block g (by omega)).trans hh, r⟩

theorem New.alloc (h : New T sz enc w base v xs) (o : Obj) : New T sz enc (w.alloc o) base v xs := h.below ((Below.refl _ _).alloc (Nat.le_refl _) o) (Nat.le_refl _)

theorem New.mono (h : New T sz enc w base v xs) {base' : Nat} (hb : base' ≤ base) : New T sz enc w base' v xs := by
  obtain ⟨A, cap, rfl, h1, h2⟩ := h
  refine ⟨A, cap, rfl, h1, ?_⟩
  rcases h2 with h2 | ⟨g, cap', cur, hv, hg, r⟩
  · exact .inl h2
  · exact .inr ⟨g, cap', cur, hv, by omega, r⟩

theorem New.sl (h : New T sz enc w base v xs) (hsz : ∀ x, (enc x).length = sz) : ∃ A cap, v = .slice A xs.length cap ∧ Sl sz enc w A xs := by
  obtain ⟨A, cap, rfl, h1, h2⟩ := h
  refine ⟨A, cap, rfl, fun hn => ?_⟩
  rcases h2 with ⟨h2, h0⟩ | ⟨g, cap', cur, hv, hg, hh, hcap, hmax, hsize, htake⟩
  · omega
  · injection hv with hA _ _
    subst hA
    have hlt : g < w.heap.size := by
      rcases Nat.lt_or_ge g w.heap.size with hlt | hge
      · exact hlt
      · rw [Array.getElem?_eq_none hge] at hh; cases hh
    refine ⟨g, 0, rfl, hlt, fun i hi j u hu => ?_⟩
    have hc : w.cell? ⟨g, 0 + i * sz + j, none⟩ = cur[0 + i * sz + j]? := cell_of_row w g _ cur T (0, 0) hh
    rw [hc]
    have hj : j < sz := by
      rcases Nat.lt_or_ge j (enc xs[i]).length with h | h
      · rw [hsz] at h; exact h
      · rw [List.getElem?_eq_none h] at hu; cases hu
    have hf := flatMap_at hsz xs i hi j u hu
    rw [← htake] at hf
    have hlt2 : i * sz + j < xs.length * sz := by
      have : (i + 1) * sz ≤ xs.length * sz := Nat.mul_le_mul_right _ hi
      rw [Nat.succ_mul] at this; omega
    rw [List.getElem?_take_of_lt hlt2] at hf
    rw [Nat.zero_add]; simpa using hf
end

/-- 'Below' in the form that the walk's rules take. -/
theorem bcell {W w1 : World} {B : Nat} (hb : Below B W w1) : (∀ b o, b < B → w1.cell? ⟨b, o, none⟩ = W.cell? ⟨b, o, none⟩) ∧ (∀ b o, b < B → w1.frozen? ⟨b, o, none⟩ = W.frozen? ⟨b, o, none⟩) :=
  ⟨fun b o h => hb.cell (p := ⟨b, o, none⟩) h, fun b o h => hb.frozen (p := ⟨b, o, none⟩) h⟩

theorem below_drewN {B : Nat} {a w : World} (h : Below B a w) (n : Nat) : Below B a (w.drewN n) := ⟨h.os, h.tape, h.output, h.size, h.block⟩

theorem below_al {a w : World} (h : Below a.heap.size a w) (o : Obj) : Below a.heap.size a (w.alloc o) := h.alloc h.size o
theorem below_tr {a w w' : World} (h : Below a.heap.size a w) (h' : Below w.heap.size w w') : Below a.heap.size a w' := h.trans (h'.mono h.size)
theorem below_st {a w : World} (h : Below a.heap.size a w) {p : Addr} (hp : a.heap.size ≤ p.block) (u : Value) : Below a.heap.size a (w.setCell p u) := h.setCell hp u

theorem ret_int {k : IntKind} {a b : Int} (h : a = b) : Ending.returned (.int k a) = .returned (.int k b) := by rw [h]
theorem ret_bool {a b : Bool} (h : a = b) : Ending.returned (.bool a) = .returned (.bool b) := by rw [h]

/-- A block's cells after the stores of a loop: the cells at the first elements are those of xs. -/
theorem list_of_cells {α : Type} {sz : Nat} {enc : α → List Value} (hsz : ∀ x, (enc x).length = sz) (xs : List α) (cs : Array Value) (hs : xs.length * sz ≤ cs.size)
    (h : ∀ i (hi : i < xs.length) j u, (enc xs[i])[j]? = some u → cs[i * sz + j]? = some u) : cs.toList.take (xs.length * sz) = xs.flatMap enc := by
  apply List.ext_getElem?
  intro m
  rcases Nat.lt_or_ge m (xs.length * sz) with hm | hm
  · have hz : 0 < sz := by
      rcases Nat.eq_zero_or_pos sz with h0 | h0
      · subst h0; simp at hm
      · exact h0
    have hi : m / sz < xs.length := Nat.div_lt_of_lt_mul (by rw [Nat.mul_comm]; exact hm)
    have hj : m % sz < sz := Nat.mod_lt _ hz
    have hmm : m / sz * sz + m % sz = m := by rw [Nat.mul_comm]; exact Nat.div_add_mod m sz
    have hl : m % sz < (enc xs[m / sz]).length := by rw [hsz]; exact hj
    have hu : (enc xs[m / sz])[m % sz]? = some ((enc xs[m / sz])[m % sz]) := List.getElem?_eq_getElem hl
    have h1 := h _ hi _ _ hu
    have h2 := flatMap_at hsz xs _ hi _ _ hu
    rw [hmm] at h1 h2
    rw [h2, List.getElem?_take_of_lt hm]; simpa using h1
  · rw [List.getElem?_eq_none (Nat.le_trans (List.length_take_le _ _) hm), List.getElem?_eq_none (by rw [flatMap_len hsz]; exact hm)]

/-- A block g of N cells that is being filled: its cells hold the encodings of the first k of xs. -/
def Filled {α : Type} (T sz : Nat) (enc : α → List Value) (w : World) (g N : Nat) (xs : List α) (k : Nat) : Prop :=
  ∃ cs : Array Value, w.heap[g]? = some (.cells cs T (0, 0)) ∧ cs.size = N ∧ xs.length * sz ≤ N ∧ ∀ i (hi : i < xs.length), i < k → ∀ j u, (enc xs[i])[j]? = some u → cs[i * sz + j]? = some u

section
variable {α : Type} {T sz : Nat} {enc : α → List Value} {w w' : World} {g N k : Nat} {xs : List α}
theorem Filled.start {cs : Array Value} (h : cs.size = N) (hN : xs.length * sz ≤ N) : Filled T sz enc (w.alloc (.cells cs T)) w.heap.size N xs 0 :=
  ⟨cs, heap_alloc_new w _, h, hN, fun _ _ h0 => absurd h0 (Nat.not_lt_zero _)⟩

theorem lt_of_heap {o : Obj} (h : w.heap[g]? = some o) : g < w.heap.size := by
  rcases Nat.lt_or_ge g w.heap.size with hlt | hge
  · exact hlt
  · rw [Array.getElem?_eq_none hge] at h; cases h

theorem Filled.lt (h : Filled T sz enc w g N xs k) : g < w.heap.size := by
  obtain ⟨cs, hg, _⟩ := h
  exact lt_of_heap hg

theorem Filled.room (h : Filled T sz enc w g N xs k) : xs.length * sz ≤ N := by
  obtain ⟨cs, _, _, h, _⟩ := h
  exact h

theorem Filled.below (h : Filled T sz enc w g N xs k) (hb : Below w.heap.size w w') : Filled T sz enc w' g N xs k := by
  have hlt := h.lt
  obtain ⟨cs, hg, r⟩ := h
  exact ⟨cs, (hb.block g hlt).trans hg, r⟩

theorem Filled.cell (h : Filled T sz enc w g N xs k) {m : Nat} (hm : m < N) : ∃ u, w.cell? ⟨g, m, none⟩ = some u := by
  obtain ⟨cs, hg, hs, _⟩ := h
  exact ⟨cs[m]'(by omega), by rw [cell_of_row w g m cs T (0, 0) hg]; exact Array.getElem?_eq_getElem (by omega)⟩

theorem Filled.frozen (h : Filled T sz enc w g N xs k) (m : Nat) : w.frozen? ⟨g, m, none⟩ = false := by
  obtain ⟨cs, hg, _⟩ := h
  exact frozen_of_row w g m cs T hg
end

theorem cells_setCells {T g : Nat} : ∀ (vs : List Value) (o : Nat) (w : World) (cs : Array Value), w.heap[g]? = some (.cells cs T (0, 0)) → o + vs.length ≤ cs.size →
    ∃ cs', (w.setCells g o vs).heap[g]? = some (.cells cs' T (0, 0)) ∧ cs'.size = cs.size ∧ (∀ j u, vs[j]? = some u → cs'[o + j]? = some u) ∧ (∀ m, m < o ∨ o + vs.length ≤ m → cs'[m]? = cs[m]?)
  | [], o, w, cs, hg, _ => ⟨cs, hg, rfl, fun j u h => by simp at h, fun m _ => rfl⟩
  | v :: r, o, w, cs, hg, hle => by
    simp only [List.length_cons] at hle
    obtain ⟨cs', h1, h2, h3, h4⟩ := cells_setCells r (o + 1) (w.setCell ⟨g, o, none⟩ v) (cs.setIfInBounds o v) (heap_setCell_same w g o cs T v hg) (by simp; omega)
    refine ⟨cs', h1, by simpa using h2, fun j u hu => ?_, fun m hm => ?_⟩
    · cases j with
      | zero =>
        have := h4 o (by omega)
        simp only [List.getElem?_cons_zero, Option.some.injEq] at hu
        subst hu
        rw [Nat.add_zero, this, Array.getElem?_setIfInBounds_self_of_lt (by omega)]
      | succ j =>
        have := h3 j u (by simpa using hu)
        rw [show o + (j + 1) = o + 1 + j from by omega]
        exact this
    · simp only [List.length_cons] at hm
      rw [h4 m (by omega), Array.getElem?_setIfInBounds_ne (by omega)]

theorem Filled.stored {α : Type} {T sz : Nat} {enc : α → List Value} (hsz : ∀ x, (enc x).length = sz) {w : World} {g N k : Nat} {xs : List α} (h : Filled T sz enc w g N xs k) (hk : k < xs.length) {vs : List Value} (hv : enc xs[k] = vs) :
    Filled T sz enc (w.setCells g (k * sz) vs) g N xs (k + 1) := by
  obtain ⟨cs, hg, hs, hN, hc⟩ := h
  have hl : vs.length = sz := by rw [← hv, hsz]
  have hm : (k + 1) * sz ≤ xs.length * sz := Nat.mul_le_mul_right _ hk
  rw [Nat.succ_mul] at hm
  obtain ⟨cs', h1, h2, h3, h4⟩ := cells_setCells vs (k * sz) w cs hg (by omega)
  refine ⟨cs', h1, h2.trans hs, hN, fun i hi hik j u hu => ?_⟩
  have hj : j < sz := by
    rcases Nat.lt_or_ge j (enc xs[i]).length with h | h
    · rw [hsz] at h; exact h
    · rw [List.getElem?_eq_none h] at hu; cases hu
  rcases Nat.lt_or_eq_of_le (Nat.le_of_lt_succ hik) with hlt | rfl
  · have : (i + 1) * sz ≤ k * sz := Nat.mul_le_mul_right _ hlt
    rw [Nat.succ_mul] at this
    rw [h4 _ (by omega)]
    exact hc i hi hlt j u hu
  · exact h3 j u (by rw [← hv]; exact hu)

theorem below_setCells_at {B : Nat} {a : World} {g : Nat} (hg : B ≤ g) : ∀ (vs : List Value) (o : Nat) (w : World), Below B a w → Below B a (w.setCells g o vs)
  | [], _, _, h => h
  | v :: r, o, _, h => below_setCells_at hg r (o + 1) _ (h.setCell hg v)

theorem below_setCells {a : World} {g : Nat} (hg : a.heap.size ≤ g) (vs : List Value) (o : Nat) (w : World) (h : Below a.heap.size a w) : Below a.heap.size a (w.setCells g o vs) := below_setCells_at hg vs o w h

theorem Filled.newCap {α : Type} {T sz : Nat} {enc : α → List Value} (hsz : ∀ x, (enc x).length = sz) {w : World} {g base cap : Nat} {xs : List α} (h : Filled T sz enc w g (cap * sz) xs xs.length) (hb : base ≤ g) (hle : xs.length ≤ cap) (hm : cap ≤ maxLen) :
    New T sz enc w base (.slice (some ⟨g, 0, none⟩) xs.length cap) xs := by
  obtain ⟨cs, hg, hs, hN, hc⟩ := h
  exact ⟨_, _, rfl, flatMap_len hsz xs, .inr ⟨g, cap, cs, rfl, hb, hg, hle, hm, hs, list_of_cells hsz xs cs (by omega) (fun i hi j u hu => hc i hi hi j u hu)⟩⟩

theorem Filled.new {α : Type} {T sz : Nat} {enc : α → List Value} (hsz : ∀ x, (enc x).length = sz) {w : World} {g base : Nat} {xs : List α} (h : Filled T sz enc w g (xs.length * sz) xs xs.length) (hb : base ≤ g) (hm : xs.length ≤ maxLen) :
    New T sz enc w base (.slice (some ⟨g, 0, none⟩) xs.length xs.length) xs := h.newCap hsz hb (Nat.le_refl _) hm

/-- A slice of the call's own, to be written over by ys. -/
theorem own_filled {α : Type} {T sz : Nat} {enc : α → List Value} (hsz : ∀ x, (enc x).length = sz) {w : World} {base cap : Nat} {A : Option Addr} {xs : List α} (h : w.ownsRow base T sz (.slice A xs.length cap) xs.length (xs.flatMap enc))
    (ys : List α) (hl : ys.length = xs.length) (h0 : 0 < xs.length) :
    ∃ g, A = some ⟨g, 0, none⟩ ∧ base ≤ g ∧ Filled T sz enc w g (cap * sz) ys 0 ∧ ∀ w', Filled T sz enc w' g (cap * sz) ys xs.length → New T sz enc w' base (.slice (some ⟨g, 0, none⟩) xs.length cap) ys := by
  obtain ⟨h1, h2⟩ := h
  rcases h2 with ⟨_, h2⟩ | ⟨g, cap', cur, hv, hg, hh, hcap, hmax, hsize, htake⟩
  · omega
  · injection hv with hA _ hc
    subst hc
    refine ⟨g, hA, hg, ⟨cur, hh, hsize, ?_, fun _ _ h0 => absurd h0 (Nat.not_lt_zero _)⟩, fun w' hf => ?_⟩
    · rw [hl]; exact Nat.mul_le_mul_right _ hcap
    · rw [← hl] at hf hcap ⊢
      exact hf.newCap hsz hg hcap hmax

theorem Sl.map {α β : Type} {sz : Nat} {enc : α → List Value} {enc' : β → List Value} {w : World} {A : Option Addr} {xs : List α} (f : α → β) (h : Sl sz enc w A xs) (hf : ∀ x ∈ xs, enc' (f x) = enc x) : Sl sz enc' w A (xs.map f) := by
  intro h0
  simp at h0
  obtain ⟨b, off, hA, hb, hc⟩ := h (by omega)
  refine ⟨b, off, hA, hb, fun i hi j u hu => ?_⟩
  simp only [List.length_map] at hi
  simp only [List.getElem_map] at hu
  rw [hf _ (List.getElem_mem hi)] at hu
  exact hc i hi j u hu

/-- The slice over a new block. -/
theorem sl_new {α : Type} {T sz : Nat} {enc : α → List Value} (hsz : ∀ x, (enc x).length = sz) (w : World) (xs : List α) (cs : Array Value) (h : cs.toList = xs.flatMap enc) :
    Sl sz enc (w.alloc (.cells cs T)) (some ⟨w.heap.size, 0, none⟩) xs := by
  intro _
  refine ⟨_, _, rfl, by simp, fun i hi j u hu => ?_⟩
  rw [World.cell?_alloc_new]
  have := flatMap_at hsz xs i hi j u hu
  rw [← h] at this
  simpa using this

theorem sl_new_at {α : Type} {T sz g : Nat} {enc : α → List Value} (hsz : ∀ x, (enc x).length = sz) (w : World) (xs : List α) (cs : Array Value) (h : cs.toList = xs.flatMap enc) (hg : g = w.heap.size) :
    Sl sz enc (w.alloc (.cells cs T)) (some ⟨g, 0, none⟩) xs := by
  subst hg
  exact sl_new hsz w xs cs h

/-- Block g holds these cells, none of them frozen. -/
def Has (w : World) (g : Nat) (vs : List Value) : Prop := g < w.heap.size ∧ ∀ j v, vs[j]? = some v → w.cell? ⟨g, j, none⟩ = some v ∧ w.frozen? ⟨g, j, none⟩ = false
section
variable {w w' : World} {g : Nat} {vs : List Value}
theorem Has.new (w : World) (cs : Array Value) (T : TypeId) : Has (w.alloc (.cells cs T)) w.heap.size cs.toList :=
  ⟨by simp, fun j v h => ⟨by rw [World.cell?_alloc_new]; simpa using h, frozen_of_row _ _ _ cs T (heap_alloc_new w _)⟩⟩
theorem Has.below (h : Has w g vs) (hb : Below w.heap.size w w') : Has w' g vs :=
  ⟨Nat.lt_of_lt_of_le h.1 hb.size, fun j v hv => ⟨(hb.cell (p := ⟨g, j, none⟩) h.1).trans (h.2 j v hv).1, (hb.frozen (p := ⟨g, j, none⟩) h.1).trans (h.2 j v hv).2⟩⟩
theorem Has.alloc (h : Has w g vs) (o : Obj) : Has (w.alloc o) g vs := h.below ((Below.refl _ _).alloc (Nat.le_refl _) o)
theorem Has.drewN (h : Has w g vs) (n : Nat) : Has (w.drewN n) g vs := h
theorem Has.drew (h : Has w g vs) : Has w.drew g vs := h
theorem Has.set_ (h : Has w g vs) {p : Addr} (hp : p.block ≠ g) (u : Value) : Has (w.setCell p u) g vs :=
  ⟨by simpa [World.setCell] using h.1, fun j v hv => ⟨(World.cell?_setCell_other w p ⟨g, j, none⟩ u (fun e => hp (by rw [e]))).trans (h.2 j v hv).1, (World.frozen?_setCell _ _ _ _).trans (h.2 j v hv).2⟩⟩
end

/-- A slice value that came in or was made: it reads as xs. -/
def Rd {α : Type} (sz : Nat) (enc : α → List Value) (w : World) (v : Value) (xs : List α) : Prop := ∃ A cap, v = .slice A xs.length cap ∧ Sl sz enc w A xs

theorem Rd.below {α : Type} {sz : Nat} {enc : α → List Value} {w w' : World} {v : Value} {xs : List α} (h : Rd sz enc w v xs) (hb : Below w.heap.size w w') : Rd sz enc w' v xs := by
  obtain ⟨A, cap, rfl, h⟩ := h
  exact ⟨A, cap, rfl, h.below hb⟩
end Go.Proofs.Ytbdihgcjopbnjaa
