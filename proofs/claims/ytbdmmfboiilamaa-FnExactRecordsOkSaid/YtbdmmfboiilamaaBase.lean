/-
  Words on memory that the contracts of this claim use: a slice that reads as a list of structs, a slice of the call's own.
  Conditions: none.
-/
import Derived.Test.YtbdmmfboiilamaaRows
import Derived.WalkKit
import Derived.WalkSpells
import Derived.WalkLawsBesides
import Derived.Deep.Draws
import Derived.Lib.Hide
import Derived.Deep.Slices
import Derived.Deep.Fields
import Derived.ChangeSame
namespace Go.Proofs.Ytbdmmfboiilamaa
open Go.RowKit

/-- The slice's address A leads to cells that read as the encodings of xs, each of sz cells. -/
def Sl {α : Type} (sz : Nat) (enc : α → List Value) (w : World) (A : Option Addr) (xs : List α) : Prop :=
  0 < xs.length → ∃ b off, A = some ⟨b, off, none⟩ ∧ b < w.heap.size ∧
    ∀ i (h : i < xs.length) j u, (enc xs[i])[j]? = some u → w.cell? ⟨b, off + i * sz + j, none⟩ = some u

section
variable {α : Type} {sz : Nat} {enc : α → List Value} {w w' : World} {A : Option Addr} {xs : List α}

theorem Sl.keep (h : Sl sz enc w A xs) {B : Nat} (hs : w.heap.size ≤ w'.heap.size) (hA : ∀ b off, A = some ⟨b, off, none⟩ → b < B) (hk : ∀ p : Addr, p.block < B → w'.cell? p = w.cell? p) : Sl sz enc w' A xs := by
  intro hn
  obtain ⟨b, off, rfl, hlt, hc⟩ := h hn
  exact ⟨b, off, rfl, Nat.lt_of_lt_of_le hlt hs, fun i hi j u hu => (hk ⟨b, off + i * sz + j, none⟩ (hA _ _ rfl)).trans (hc i hi j u hu)⟩

theorem Sl.below (h : Sl sz enc w A xs) (hb : Below w.heap.size w w') : Sl sz enc w' A xs := by
  intro hn
  obtain ⟨b, off, rfl, hlt, hc⟩ := h hn
  exact ⟨b, off, rfl, Nat.lt_of_lt_of_le hlt hb.size, fun i hi j u hu => (hb.cell (p := ⟨b, off + i * sz + j, none⟩) hlt).trans (hc i hi j u hu)⟩

theorem Sl.alloc (h : Sl sz enc w A xs) (o : Obj) : Sl sz enc (w.alloc o) A xs := h.below ((Below.refl _ _).alloc (Nat.le_refl _) o)
theorem Sl.drew (h : Sl sz enc w A xs) : Sl sz enc w.drew A xs := h
theorem Sl.drewN (h : Sl sz enc w A xs) (n : Nat) : Sl sz enc (w.drewN n) A xs := h

/-- The cells of element k, for a round of a loop. -/
theorem Sl.at_ (h : Sl sz enc w A xs) {k : Nat} (hk : k < xs.length) :
    ∃ b off, A = some ⟨b, off, none⟩ ∧ b < w.heap.size ∧ ∀ j u, (enc xs[k])[j]? = some u → w.cell? ⟨b, off + k * sz + j, none⟩ = some u := by
  obtain ⟨b, off, hA, hb, hc⟩ := h (by omega)
  exact ⟨b, off, hA, hb, fun j u hu => hc k hk j u hu⟩
end

theorem flatMap_len {α : Type} {sz : Nat} {enc : α → List Value} (hsz : ∀ x, (enc x).length = sz) : ∀ xs : List α, (xs.flatMap enc).length = xs.length * sz
  | [] => by simp
  | x :: r => by simp only [List.flatMap_cons, List.length_append, hsz, flatMap_len hsz r, List.length_cons, Nat.succ_mul]; omega

theorem flatMap_at {α : Type} {sz : Nat} {enc : α → List Value} (hsz : ∀ x, (enc x).length = sz) : ∀ (xs : List α) (i : Nat) (h : i < xs.length) (j : Nat) (u : Value), (enc xs[i])[j]? = some u → (xs.flatMap enc)[i * sz + j]? = some u
  | x :: r, 0, _, j, u, hu => by
    have hj : j < (enc x).length := by
      rcases Nat.lt_or_ge j (enc x).length with h | h
      · exact h
      · simp only [List.getElem_cons_zero] at hu; rw [List.getElem?_eq_none h] at hu; cases hu
    simp only [List.getElem_cons_zero] at hu
    simp only [Nat.zero_mul, Nat.zero_add, List.flatMap_cons]
    rw [List.getElem?_append_left hj]; exact hu
  | x :: r, i + 1, h, j, u, hu => by
    have hu' : (enc (r[i]'(by simpa using h)))[j]? = some u := by simpa using hu
    have := flatMap_at hsz r i (by simpa using h) j u hu'
    simp only [List.flatMap_cons, Nat.succ_mul]
    rw [List.getElem?_append_right (by rw [hsz]; omega), hsz]
    rw [← this]; congr 1; omega

/-- A slice that the call made: it owns its cells, which are the encodings of xs. -/
def New {α : Type} (T sz : Nat) (enc : α → List Value) (w : World) (base : Nat) (v : Value) (xs : List α) : Prop :=
  ∃ A cap, v = .slice A xs.length cap ∧ w.ownsRow base T sz v xs.length (xs.flatMap enc)

section
variable {α : Type} {T sz : Nat} {enc : α → List Value} {w w' : World} {v : Value} {xs : List α} {base : Nat}

theorem New.below {B : Nat} (h : New T sz enc w base v xs) (hb : Below B w w') (hB : w.heap.size ≤ B) : New T sz enc w' base v xs := by
  obtain ⟨A, cap, rfl, h1, h2⟩ := h
  refine ⟨A, cap, rfl, h1, ?_⟩
  rcases h2 with h2 | ⟨g, cap', cur, hv, hg, hh, r⟩
  · exact .inl h2
  · have hlt : g < w.heap.size := by
      rcases Nat.lt_or_ge g w.heap.size with hlt | hge
      · exact hlt
      · rw [Array.getElem?_eq_none hge] at hh; cases hh
    exact .inr ⟨g, cap', cur, hv, hg, (hb.block g (by omega)).trans hh, r⟩

theorem New.alloc (h : New T sz enc w base v xs) (o : Obj) : New T sz enc (w.alloc o) base v xs := h.below ((Below.refl _ _).alloc (Nat.le_refl _) o) (Nat.le_refl _)

theorem New.mono (h : New T sz enc w base v xs) {base' : Nat} (hb : base' ≤ base) : New T sz enc w base' v xs := by
  obtain ⟨A, cap, rfl, h1, h2⟩ := h
  refine ⟨A, cap, rfl, h1, ?_⟩
  rcases h2 with h2 | ⟨g, cap', cur, hv, hg, r⟩
  · exact .inl h2
  · exact .inr ⟨g, cap', cur, hv, by omega, r⟩

theorem New.sl (h : New T sz enc w base v xs) (hsz : ∀ x, (enc x).length = sz) : ∃ A cap, v = .slice A xs.length cap ∧ Sl sz enc w A xs := by
  obtain ⟨A, cap, rfl, h1, h2⟩ := h
  refine ⟨A, cap, rfl, fun hn => ?_⟩
  rcases h2 with ⟨h2, h0⟩ | ⟨g, cap', cur, hv, hg, hh, hcap, hmax, hsize, htake⟩
  · omega
  · injection hv with hA _ _
    subst hA
    have hlt : g < w.heap.size := by
      rcases Nat.lt_or_ge g w.heap.size with hlt | hge
      · exact hlt
      · rw [Array.getElem?_eq_none hge] at hh; cases hh
    refine ⟨g, 0, rfl, hlt, fun i hi j u hu => ?_⟩
    have hc : w.cell? ⟨g, 0 + i * sz + j, none⟩ = cur[0 + i * sz + j]? := cell_of_row w g _ cur T (0, 0) hh
    rw [hc]
    have hj : j < sz := by
      rcases Nat.lt_or_ge j (enc xs[i]).length with h | h
      · rw [hsz] at h; exact h
      · rw [List.getElem?_eq_none h] at hu; cases hu
    have hf := flatMap_at hsz xs i hi j u hu
    rw [← htake] at hf
    have hlt2 : i * sz + j < xs.length * sz := by
      have : (i + 1) * sz ≤ xs.length * sz := Nat.mul_le_mul_right _ hi
      rw [Nat.succ_mul] at this; omega
    rw [List.getElem?_take_of_lt hlt2] at hf
    rw [Nat.zero_add]; simpa using hf
end

/-- 'Below' in the form that the walk's rules take. -/
theorem bcell {W w1 : World} {B : Nat} (hb : Below B W w1) : (∀ b o, b < B → w1.cell? ⟨b, o, none⟩ = W.cell? ⟨b, o, none⟩) ∧ (∀ b o, b < B → w1.frozen? ⟨b, o, none⟩ = W.frozen? ⟨b, o, none⟩) :=
  ⟨fun b o h => hb.cell (p := ⟨b, o, none⟩) h, fun b o h => hb.frozen (p := ⟨b, o, none⟩) h⟩

theorem below_drewN {B : Nat} {a w : World} (h : Below B a w) (n : Nat) : Below B a (w.drewN n) := ⟨h.os, h.tape, h.output, h.size, h.block⟩

theorem below_al {a w : World} (h : Below a.heap.size a w) (o : Obj) : Below a.heap.size a (w.alloc o) := h.alloc h.size o
theorem below_tr {a w w' : World} (h : Below a.heap.size a w) (h' : Below w.heap.size w w') : Below a.heap.size a w' := h.trans (h'.mono h.size)
theorem below_st {a w : World} (h : Below a.heap.size a w) {p : Addr} (hp : a.heap.size ≤ p.block) (u : Value) : Below a.heap.size a (w.setCell p u) := h.setCell hp u

theorem ret_int {k : IntKind} {a b : Int} (h : a = b) : Ending.returned (.int k a) = .returned (.int k b) := by rw [h]
theorem ret_bool {a b : Bool} (h : a = b) : Ending.returned (.bool a) = .returned (.bool b) := by rw [h]

/-- A block's cells after the stores of a loop: the cells at the first k elements are those of xs. -/
theorem list_of_cells {α : Type} {sz : Nat} {enc : α → List Value} (hsz : ∀ x, (enc x).length = sz) (xs : List α) (cs : Array Value) (hs : cs.size = xs.length * sz)
    (h : ∀ i (hi : i < xs.length) j u, (enc xs[i])[j]? = some u → cs[i * sz + j]? = some u) : cs.toList = xs.flatMap enc := by
  apply List.ext_getElem?
  intro m
  rcases Nat.lt_or_ge m (xs.length * sz) with hm | hm
  · have hz : 0 < sz := by rcases Nat.eq_zero_or_pos sz with h0 | h0; · subst h0; simp at hm
                           · exact h0
    have hi : m / sz < xs.length := Nat.div_lt_of_lt_mul (by rw [Nat.mul_comm]; exact hm)
    have hj : m % sz < sz := Nat.mod_lt _ hz
    have hmm : m / sz * sz + m % sz = m := by rw [Nat.mul_comm]; exact Nat.div_add_mod m sz
    have hl : m % sz < (enc xs[m / sz]).length := by rw [hsz]; exact hj
    have hu : (enc xs[m / sz])[m % sz]? = some ((enc xs[m / sz])[m % sz]) := List.getElem?_eq_getElem hl
    have h1 := h _ hi _ _ hu
    have h2 := flatMap_at hsz xs _ hi _ _ hu
    rw [hmm] at h1 h2
    rw [h2]; simpa using h1
  · rw [List.getElem?_eq_none (by rw [Array.length_toList]; omega), List.getElem?_eq_none (by rw [flatMap_len hsz]; omega)]

theorem new_lit {α : Type} {T sz : Nat} {enc : α → List Value} (hsz : ∀ x, (enc x).length = sz) {w : World} {base g : Nat} {xs : List α} {cs : Array Value} (hb : base ≤ g) (hg : w.heap[g]? = some (.cells cs T (0, 0)))
    (hm : xs.length ≤ maxLen) (hs : cs.size = xs.length * sz) (h : ∀ i (hi : i < xs.length) j u, (enc xs[i])[j]? = some u → cs[i * sz + j]? = some u) :
    New T sz enc w base (.slice (some ⟨g, 0, none⟩) xs.length xs.length) xs := by
  refine ⟨_, _, rfl, flatMap_len hsz xs, .inr ⟨g, xs.length, cs, rfl, hb, hg, Nat.le_refl _, hm, hs, ?_⟩⟩
  rw [list_of_cells hsz xs cs hs h, List.take_of_length_le (by rw [flatMap_len hsz]; exact Nat.le_refl _)]

/-- A new block g that is being filled: its cells hold the encodings of the first k of xs. -/
def Filled {α : Type} (T sz : Nat) (enc : α → List Value) (w : World) (g : Nat) (xs : List α) (k : Nat) : Prop :=
  ∃ cs : Array Value, w.heap[g]? = some (.cells cs T (0, 0)) ∧ cs.size = xs.length * sz ∧ ∀ i (hi : i < xs.length), i < k → ∀ j u, (enc xs[i])[j]? = some u → cs[i * sz + j]? = some u

theorem Filled.start {α : Type} {T sz : Nat} {enc : α → List Value} {w : World} {xs : List α} {cs : Array Value} (h : cs.size = xs.length * sz) : Filled T sz enc (w.alloc (.cells cs T)) w.heap.size xs 0 :=
  ⟨cs, heap_alloc_new w _, h, fun i _ h0 => absurd h0 (Nat.not_lt_zero _)⟩

theorem Filled.lt {α : Type} {T sz : Nat} {enc : α → List Value} {w : World} {g k : Nat} {xs : List α} (h : Filled T sz enc w g xs k) : g < w.heap.size := by
  obtain ⟨cs, hg, _⟩ := h
  rcases Nat.lt_or_ge g w.heap.size with hlt | hge
  · exact hlt
  · rw [Array.getElem?_eq_none hge] at hg; cases hg

theorem Filled.below {α : Type} {T sz : Nat} {enc : α → List Value} {w w' : World} {g k : Nat} {xs : List α} (h : Filled T sz enc w g xs k) (hb : Below w.heap.size w w') : Filled T sz enc w' g xs k := by
  have hlt := h.lt
  obtain ⟨cs, hg, r⟩ := h
  exact ⟨cs, (hb.block g hlt).trans hg, r⟩

theorem Filled.cell {α : Type} {T sz : Nat} {enc : α → List Value} {w : World} {g k : Nat} {xs : List α} (h : Filled T sz enc w g xs k) {m : Nat} (hm : m < xs.length * sz) : ∃ u, w.cell? ⟨g, m, none⟩ = some u := by
  obtain ⟨cs, hg, hs, _⟩ := h
  exact ⟨cs[m]'(by omega), by rw [cell_of_row w g m cs T (0, 0) hg]; exact Array.getElem?_eq_getElem (by omega)⟩

theorem Filled.frozen {α : Type} {T sz : Nat} {enc : α → List Value} {w : World} {g k : Nat} {xs : List α} (h : Filled T sz enc w g xs k) (m : Nat) : w.frozen? ⟨g, m, none⟩ = false := by
  obtain ⟨cs, hg, _⟩ := h
  exact frozen_of_row w g m cs T hg

theorem cells_setCells {T g : Nat} : ∀ (vs : List Value) (o : Nat) (w : World) (cs : Array Value), w.heap[g]? = some (.cells cs T (0, 0)) → o + vs.length ≤ cs.size →
    ∃ cs', (w.setCells g o vs).heap[g]? = some (.cells cs' T (0, 0)) ∧ cs'.size = cs.size ∧ (∀ j u, vs[j]? = some u → cs'[o + j]? = some u) ∧ (∀ m, m < o ∨ o + vs.length ≤ m → cs'[m]? = cs[m]?)
  | [], o, w, cs, hg, _ => ⟨cs, hg, rfl, fun j u h => by simp at h, fun m _ => rfl⟩
  | v :: r, o, w, cs, hg, hle => by
    simp only [List.length_cons] at hle
    obtain ⟨cs', h1, h2, h3, h4⟩ := cells_setCells r (o + 1) (w.setCell ⟨g, o, none⟩ v) (cs.setIfInBounds o v) (heap_setCell_same w g o cs T v hg) (by simp; omega)
    refine ⟨cs', h1, by simpa using h2, fun j u hu => ?_, fun m hm => ?_⟩
    · cases j with
      | zero =>
        have := h4 o (by omega)
        simp only [List.getElem?_cons_zero, Option.some.injEq] at hu
        subst hu
        rw [Nat.add_zero, this, Array.getElem?_setIfInBounds_self_of_lt (by omega)]
      | succ j =>
        have := h3 j u (by simpa using hu)
        rw [show o + (j + 1) = o + 1 + j from by omega]
        exact this
    · simp only [List.length_cons] at hm
      rw [h4 m (by omega), Array.getElem?_setIfInBounds_ne (by omega)]

theorem Filled.stored {α : Type} {T sz : Nat} {enc : α → List Value} (hsz : ∀ x, (enc x).length = sz) {w : World} {g k : Nat} {xs : List α} (h : Filled T sz enc w g xs k) (hk : k < xs.length) {vs : List Value} (hv : enc xs[k] = vs) :
    Filled T sz enc (w.setCells g (k * sz) vs) g xs (k + 1) := by
  obtain ⟨cs, hg, hs, hc⟩ := h
  have hl : vs.length = sz := by rw [← hv, hsz]
  have hm : (k + 1) * sz ≤ xs.length * sz := Nat.mul_le_mul_right _ hk
  rw [Nat.succ_mul] at hm
  obtain ⟨cs', h1, h2, h3, h4⟩ := cells_setCells vs (k * sz) w cs hg (by omega)
  refine ⟨cs', h1, h2.trans hs, fun i hi hik j u hu => ?_⟩
  have hj : j < sz := by
    rcases Nat.lt_or_ge j (enc xs[i]).length with h | h
    · rw [hsz] at h; exact h
    · rw [List.getElem?_eq_none h] at hu; cases hu
  rcases Nat.lt_or_eq_of_le (Nat.le_of_lt_succ hik) with hlt | rfl
  · have : (i + 1) * sz ≤ k * sz := Nat.mul_le_mul_right _ hlt
    rw [Nat.succ_mul] at this
    rw [h4 _ (by omega)]
    exact hc i hi hlt j u hu
  · exact h3 j u (by rw [← hv]; exact hu)

theorem below_setCells {a : World} {g : Nat} (hg : a.heap.size ≤ g) : ∀ (vs : List Value) (o : Nat) (w : World), Below a.heap.size a w → Below a.heap.size a (w.setCells g o vs)
  | [], _, _, h => h
  | v :: r, o, w, h => below_setCells hg r (o + 1) _ (below_st h hg v)

theorem Filled.new {α : Type} {T sz : Nat} {enc : α → List Value} (hsz : ∀ x, (enc x).length = sz) {w : World} {g base : Nat} {xs : List α} (h : Filled T sz enc w g xs xs.length) (hb : base ≤ g) (hm : xs.length ≤ maxLen) :
    New T sz enc w base (.slice (some ⟨g, 0, none⟩) xs.length xs.length) xs := by
  obtain ⟨cs, hg, hs, hc⟩ := h
  exact new_lit hsz hb hg hm hs (fun i hi j u hu => hc i hi hi j u hu)

/-- The slice over a new block. -/
theorem sl_new {α : Type} {T sz : Nat} {enc : α → List Value} (hsz : ∀ x, (enc x).length = sz) (w : World) (xs : List α) (cs : Array Value) (h : cs.toList = xs.flatMap enc) :
    Sl sz enc (w.alloc (.cells cs T)) (some ⟨w.heap.size, 0, none⟩) xs := by
  intro _
  refine ⟨_, _, rfl, by simp, fun i hi j u hu => ?_⟩
  rw [World.cell?_alloc_new]
  have := flatMap_at hsz xs i hi j u hu
  rw [← h] at this
  simpa using this

/-- A slice value that came in or was made: it reads as xs. -/
def Rd {α : Type} (sz : Nat) (enc : α → List Value) (w : World) (v : Value) (xs : List α) : Prop := ∃ A cap, v = .slice A xs.length cap ∧ Sl sz enc w A xs

theorem Rd.below {α : Type} {sz : Nat} {enc : α → List Value} {w w' : World} {v : Value} {xs : List α} (h : Rd sz enc w v xs) (hb : Below w.heap.size w w') : Rd sz enc w' v xs := by
  obtain ⟨A, cap, rfl, h⟩ := h
  exact ⟨A, cap, rfl, h.below hb⟩
end Go.Proofs.Ytbdmmfboiilamaa
