/-
  The plain geometry of signed areas: what an edge of a list of half planes is, and that an edge has a next one.
  Conditions: none.
-/
import Derived.Test.YtbdihgcjopbnjaaStr
namespace Go.Proofs.Ytbdihgcjopbnjaa
open Go.RowKit

theorem gmp {a b : Int} (h : 0 < a * b) (ha : 0 < a) : 0 < b := by
  rcases Int.lt_or_le 0 b with h1 | h1
  · exact h1
  · have := Int.mul_nonpos_of_nonneg_of_nonpos (Int.le_of_lt ha) h1; omega
theorem gmn {a b : Int} (h : 0 ≤ a * b) (ha : 0 < a) : 0 ≤ b := by
  rcases Int.lt_or_le b 0 with h1 | h1
  · have := Int.mul_neg_of_pos_of_neg ha h1; omega
  · exact h1
theorem gmz {a b : Int} (h : a * b = 0) (ha : a ≠ 0) : b = 0 := by
  rcases Int.mul_eq_zero.1 h with h1 | h1
  · exact absurd h1 ha
  · exact h1

/-- Signed areas of two and of three: antisymmetric, and with the relations of three and of four in a plane. -/
structure GOM {α : Type} (X : α → α → Int) (D : α → α → α → Int) : Prop where
  xa : ∀ a b, X a b = -X b a
  da : ∀ a b c, D a b c = -D b a c
  dc : ∀ a b c, D a b c = D b c a
  p3 : ∀ p q r s, D p q r * X p s - D p q s * X p r + X p q * D p r s = 0
  p2 : ∀ a b c d, X a b * X c d - X a c * X b d + X a d * X b c = 0

section
variable {α : Type} {X : α → α → Int} {D : α → α → α → Int} {L : List α}

def GEdge (X : α → α → Int) (D : α → α → α → Int) (L : List α) (h : α) : Prop := ∀ g ∈ L, ∀ k ∈ L, 0 < X g h → 0 < X h k → 0 < D g h k
def GIns (X : α → α → Int) (D : α → α → α → Int) (L : List α) (h g : α) : Prop := X h g ≠ 0 ∧ ∀ f ∈ L, 0 ≤ X h g * D h g f
def GES (X : α → α → Int) (D : α → α → α → Int) (L : List α) (h : α) : Prop := ∃ g ∈ L, ∃ k ∈ L, GIns X D L h g ∧ GIns X D L h k ∧ D h g k ≠ 0
/-- Parallel ones leave room. -/
def GNV (X : α → α → Int) (D : α → α → α → Int) (L : List α) : Prop := ∀ u ∈ L, ∀ v ∈ L, X u v = 0 → u ≠ v → ∀ g, X u g ≠ 0 → 0 < X u g * D u g v

theorem GOM.mirror (h : GOM X D) : GOM (fun a b => -X a b) (fun a b c => -D a b c) where
  xa a b := by have := h.xa a b; omega
  da a b c := by have := h.da a b c; omega
  dc a b c := by have := h.dc a b c; omega
  p3 p q r s := by have := h.p3 p q r s; simp only [Int.neg_mul_neg]; exact this
  p2 a b c d := by have := h.p2 a b c d; simp only [Int.neg_mul_neg]; exact this

theorem GOM.x0 (h : GOM X D) (a : α) : X a a = 0 := by have := h.xa a a; omega
theorem GOM.d0 (h : GOM X D) (a b : α) : D a b a = 0 := by
  have h1 := h.dc a b a
  have h2 := h.dc b a a
  have h3 := h.da a a b
  omega
theorem GOM.d1 (h : GOM X D) (a b : α) : D a b b = 0 := by
  have h1 := h.dc a b b
  have h2 := h.da b b a
  omega
theorem GOM.d23 (h : GOM X D) (a b c : α) : D a b c = -D a c b := by
  have h1 := h.dc a b c
  have h2 := h.da b c a
  have h3 := h.dc c b a
  have h4 := h.dc b a c
  omega
theorem GOM.d13 (h : GOM X D) (a b c : α) : D a b c = -D c b a := by
  have h1 := h.dc a b c
  have h2 := h.da b c a
  omega

theorem GEdge.mirror (o : GOM X D) {h : α} (e : GEdge X D L h) : GEdge (fun a b => -X a b) (fun a b c => -D a b c) L h := by
  intro g hg k hk h1 h2
  simp only at h1 h2 ⊢
  have h1' : 0 < X h g := by have := o.xa h g; omega
  have h2' : 0 < X k h := by have := o.xa k h; omega
  have := e k hk g hg h2' h1'
  have := o.d13 g h k
  omega
theorem GEdge.unmirror (o : GOM X D) {h : α} (e : GEdge (fun a b => -X a b) (fun a b c => -D a b c) L h) : GEdge X D L h := by
  have := e.mirror o.mirror
  simpa only [Int.neg_neg] using this

theorem GNV.mirror (n : GNV X D L) : GNV (fun a b => -X a b) (fun a b c => -D a b c) L := by
  intro u hu v hv h0 hne g hg
  simp only at h0 hg ⊢
  have := n u hu v hv (by omega) hne g (by omega)
  simp only [Int.neg_mul_neg]; exact this

theorem gexists_min {P : α → Prop} {le : α → α → Prop} (tot : ∀ a b, P a → P b → le a b ∨ le b a) (tr : ∀ a b c, P a → P b → P c → le a b → le b c → le a c) :
    ∀ l : List α, (∃ g ∈ l, P g) → ∃ m ∈ l, P m ∧ ∀ g ∈ l, P g → le m g
  | [], h => by obtain ⟨g, hg, _⟩ := h; cases hg
  | x :: l, h => by
    by_cases hl : ∃ g ∈ l, P g
    · obtain ⟨m, hm, hp, hmin⟩ := gexists_min tot tr l hl
      by_cases hx : P x
      · rcases tot m x hp hx with h1 | h1
        · refine ⟨m, by simp [hm], hp, fun g hg hpg => ?_⟩
          rcases List.mem_cons.1 hg with rfl | hg
          · exact h1
          · exact hmin g hg hpg
        · refine ⟨x, by simp, hx, fun g hg hpg => ?_⟩
          rcases List.mem_cons.1 hg with rfl | hg
          · rcases tot g g hpg hpg with h | h <;> exact h
          · exact tr x m g hx hp hpg h1 (hmin g hg hpg)
      · refine ⟨m, by simp [hm], hp, fun g hg hpg => ?_⟩
        rcases List.mem_cons.1 hg with rfl | hg
        · exact absurd hpg hx
        · exact hmin g hg hpg
    · obtain ⟨g, hg, hp⟩ := h
      rcases List.mem_cons.1 hg with rfl | hg
      · refine ⟨g, by simp, hp, fun k hk hpk => ?_⟩
        rcases List.mem_cons.1 hk with rfl | hk
        · rcases tot k k hpk hpk with h | h <;> exact h
        · exact absurd ⟨k, hk, hpk⟩ hl
      · exact absurd ⟨g, hg, hp⟩ hl

/-- The corner behind an gedge. -/
theorem gnext (o : GOM X D) (nv : GNV X D L) {h : α} (hh : h ∈ L) (e : GEdge X D L h) (ex : ∃ g ∈ L, 0 < X h g) :
    ∃ g ∈ L, 0 < X h g ∧ (∀ f ∈ L, 0 ≤ D h g f) ∧ (∀ f ∈ L, 0 < X g f → 0 < D h g f) ∧ GEdge X D L g := by
  obtain ⟨g, hg, hp, hmin⟩ := gexists_min (P := fun g => 0 < X h g) (le := fun a b => 0 < D h a b ∨ (D h a b = 0 ∧ 0 ≤ X b a))
    (by
      intro a b _ _
      have h1 := o.d23 h a b
      have h2 := o.xa a b
      omega)
    (by
      intro a b c pa pb pc h1 h2
      have h3 := o.p3 h a b c
      have h4 := o.p2 h a b c
      have q1 : 0 ≤ D h a b * X h c := Int.mul_nonneg (by omega) (by omega)
      have q2 : 0 ≤ X h a * D h b c := Int.mul_nonneg (by omega) (by omega)
      have q3 : D h a c * X h b = D h a b * X h c + X h a * D h b c := by omega
      have q4 : 0 ≤ D h a c := gmn (a := X h b) (by rw [Int.mul_comm]; omega) pb
      rcases Int.lt_or_eq_of_le q4 with q5 | q5
      · exact .inl q5
      · refine .inr ⟨q5.symm, ?_⟩
        rw [← q5, Int.zero_mul] at q3
        have z1 : D h a b = 0 := by
          rcases h1 with h1 | h1
          · have := Int.mul_pos h1 pc; omega
          · exact h1.1
        have z2 : D h b c = 0 := by
          rcases h2 with h2 | h2
          · have := Int.mul_pos pa h2; omega
          · exact h2.1
        have y1 : 0 ≤ X b a := by omega
        have y2 : 0 ≤ X c b := by omega
        have e1 := o.xa a b
        have e2 := o.xa b c
        have e3 := o.xa a c
        have w1 : 0 ≤ X h a * X c b := Int.mul_nonneg (by omega) y2
        have w2 : 0 ≤ X h c * X b a := Int.mul_nonneg (by omega) y1
        rw [e2, e3, e1] at h4
        simp only [Int.mul_neg] at h4
        exact gmn (a := X h b) (by omega) pb)
    L ex
  have hA : ∀ f ∈ L, 0 ≤ D h g f ∧ (0 < X g f → 0 < D h g f) := by
    intro f hf
    rcases Int.lt_trichotomy (X h f) 0 with h1 | h1 | h1
    · have := e f hf g hg (by have := o.xa f h; omega) hp
      have := o.dc f h g
      exact ⟨by omega, fun _ => by omega⟩
    · by_cases hfh : f = h
      · subst hfh
        have := o.d0 f g
        have := o.xa g f
        exact ⟨by omega, fun _ => by omega⟩
      · have := nv h hh f hf h1 (Ne.symm hfh) g (by omega)
        have := gmp this hp
        exact ⟨by omega, fun _ => this⟩
    · have h2 := hmin f hf h1
      have := o.xa f g
      exact ⟨by omega, fun _ => by omega⟩
  refine ⟨g, hg, hp, fun f hf => (hA f hf).1, fun f hf => (hA f hf).2, ?_⟩
  intro f hf k hk h1 h2
  have hf1 := (hA f hf).1
  have hk1 := (hA k hk).2 h2
  have h3 := o.p3 g h f k
  have e1 := o.da g h f
  have e2 := o.da g h k
  have e3 := o.da g f k
  have e4 := o.xa g f
  have e5 := o.xa g h
  rw [e1, e2, e3, e4, e5] at h3
  simp only [Int.neg_mul, Int.mul_neg, Int.neg_neg] at h3
  have q1 := Int.mul_pos hk1 h1
  have q2 := Int.mul_nonneg hf1 (Int.le_of_lt h2)
  exact gmp (a := X h g) (by omega) hp

theorem gprev (o : GOM X D) (nv : GNV X D L) {h : α} (hh : h ∈ L) (e : GEdge X D L h) (ex : ∃ g ∈ L, X h g < 0) :
    ∃ g ∈ L, X h g < 0 ∧ (∀ f ∈ L, D h g f ≤ 0) ∧ GEdge X D L g := by
  obtain ⟨g, hg, hp, h1, _, h3⟩ := gnext o.mirror nv.mirror hh (e.mirror o) (by
    obtain ⟨g, hg, h0⟩ := ex
    exact ⟨g, hg, by omega⟩)
  exact ⟨g, hg, by omega, fun f hf => by have := h1 f hf; omega, h3.unmirror o⟩

/-- Two different points of the region on the border make an gedge. -/
theorem edge_of_ES (o : GOM X D) {h : α} (e : GES X D L h) : GEdge X D L h := by
  obtain ⟨p, hp, q, hq, ⟨p0, pi⟩, ⟨q0, qi⟩, hne⟩ := e
  intro g hg k hk h1 h2
  have xg : X h g < 0 := by have := o.xa h g; omega
  have key : ∀ r, X h r ≠ 0 → (∀ f ∈ L, 0 ≤ X h r * D h r f) → 0 ≤ D g h k ∧ (D g h k = 0 → D h r g = 0) := by
    intro r r0 ri
    have h3 := o.p3 h r g k
    have e1 := o.da g h k
    have w1 := ri g hg
    have w2 := ri k hk
    have sq : 0 < X h r * X h r := by
      rcases Int.lt_or_gt_of_ne r0 with h | h
      · exact Int.mul_pos_of_neg_of_neg h h
      · exact Int.mul_pos h h
    have id : X h r * X h r * D g h k = X h r * D h r g * X h k + X h r * D h r k * -X h g := by
      have := congrArg (fun z => X h r * z) h3
      rw [e1]
      grind
    have t1 := Int.mul_nonneg w1 (Int.le_of_lt h2)
    have t2 := Int.mul_nonneg w2 (show 0 ≤ -X h g by omega)
    refine ⟨gmn (a := X h r * X h r) (by omega) sq, fun half0 => ?_⟩
    rw [half0, Int.mul_zero] at id
    have t3 : X h r * D h r g * X h k = 0 := by omega
    have t4 := gmz (by rw [Int.mul_comm]; exact t3) (show X h k ≠ 0 by omega)
    exact gmz t4 r0
  have k1 := key p p0 pi
  rcases Int.lt_or_eq_of_le k1.1 with h3 | h3
  · exact h3
  · exfalso
    have z1 := k1.2 h3.symm
    have z2 := (key q q0 qi).2 h3.symm
    have h4 := o.p3 h g p q
    have e1 := o.d23 h g p
    have e2 := o.d23 h g q
    rw [e1, e2, z1, z2] at h4
    simp only [Int.neg_zero, Int.zero_mul, Int.sub_zero, Int.zero_add] at h4
    exact hne (gmz h4 (by omega))

theorem ES_of_edge (o : GOM X D) (nv : GNV X D L) {h : α} (hh : h ∈ L) (e : GEdge X D L h) (ex : ∃ g ∈ L, 0 < X h g) (ex' : ∃ g ∈ L, X h g < 0) : GES X D L h := by
  obtain ⟨g, hg, hp, h1, _, _⟩ := gnext o nv hh e ex
  obtain ⟨k, hk, hq, h2, _⟩ := gprev o nv hh e ex'
  refine ⟨g, hg, k, hk, ⟨by omega, fun f hf => Int.mul_nonneg (by omega) (h1 f hf)⟩, ⟨by omega, fun f hf => Int.mul_nonneg_of_nonpos_of_nonpos (by omega) (h2 f hf)⟩, ?_⟩
  have := e k hk g hg (by have := o.xa k h; omega) hp
  have := o.dc k h g
  omega

/-- Where two opposite ones leave no room, an gedge is one of them. -/
theorem ES_void (o : GOM X D) {u v : α} (hu : u ∈ L) (hv : v ∈ L) {m n : Int} (hm : 0 < m) (hn : 0 < n)
    (hd : ∀ h g, X h u ≠ 0 → X h g ≠ 0 → X h g * (m * D h g u + n * D h g v) ≤ 0) {h : α} (e : GES X D L h) : X h u = 0 := by
  obtain ⟨p, hp, q, hq, ⟨p0, pi⟩, ⟨q0, qi⟩, hne⟩ := e
  rcases Classical.em (X h u = 0) with h0 | h0
  · exact h0
  · exfalso
    have key : ∀ r, X h r ≠ 0 → (∀ f ∈ L, 0 ≤ X h r * D h r f) → D h r u = 0 := by
      intro r r0 ri
      have w1 := ri u hu
      have w2 := ri v hv
      have t := hd h r h0 r0
      have t1 := Int.mul_nonneg (Int.le_of_lt hm) w1
      have t2 := Int.mul_nonneg (Int.le_of_lt hn) w2
      have id : X h r * (m * D h r u + n * D h r v) = m * (X h r * D h r u) + n * (X h r * D h r v) := by grind
      have t3 : m * (X h r * D h r u) = 0 := by omega
      exact gmz (gmz t3 (by omega)) r0
    have z1 := key p p0 pi
    have z2 := key q q0 qi
    have h4 := o.p3 h u p q
    have e1 := o.d23 h u p
    have e2 := o.d23 h u q
    rw [e1, e2, z1, z2] at h4
    simp only [Int.neg_zero, Int.zero_mul, Int.sub_zero, Int.zero_add] at h4
    exact hne (gmz h4 h0)

/-- No gedge lies between an gedge and the gnext one. -/
theorem none_between (o : GOM X D) {h g f : α} (hh : h ∈ L) (hg : g ∈ L) (hf : f ∈ L) (h1 : ∀ f ∈ L, 0 ≤ D h g f) (a : 0 < X h f) (b : 0 < X f g) (e : GEdge X D L f) : False := by
  have := e h hh g hg a b
  have := h1 f hf
  have := o.d23 h g f
  omega
end
end Go.Proofs.Ytbdihgcjopbnjaa
