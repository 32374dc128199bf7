/-
  The search of the program for the two ends of an edge.
  Conditions: none.
-/
import Derived.Test.YtbdihgcjopbnjaaGeo4
import Derived.Test.YtbdihgcjopbnjaaCmp
namespace Go.Proofs.Ytbdihgcjopbnjaa
open Go.RowKit

theorem gsgn_lt {x : Int} : sgn x < 0 ↔ x < 0 := by unfold sgn; split <;> (try split) <;> omega
theorem gsgn_ge {x : Int} : 0 ≤ sgn x ↔ 0 ≤ x := by unfold sgn; split <;> (try split) <;> omega
theorem gsgn_le {x : Int} : sgn x ≤ 0 ↔ x ≤ 0 := by unfold sgn; split <;> (try split) <;> omega

/-! ### the crossing of two borders, and its place on the first one -/
def crX (h g : Half) : Int := if hcrs h g < 0 then -(h.c * g.b - g.c * h.b) else h.c * g.b - g.c * h.b
def crY (h g : Half) : Int := if hcrs h g < 0 then -(h.a * g.c - g.a * h.c) else h.a * g.c - g.a * h.c
def crD (h g : Half) : Int := if hcrs h g < 0 then -hcrs h g else hcrs h g
def gpos (h g : Half) : Int := h.a * crY h g - h.b * crX h g
def nn2 (h : Half) : Int := h.a * h.a + h.b * h.b
theorem nn2_pos {h : Half} (n : HNz h) : 0 < nn2 h := by
  unfold nn2
  have sq : ∀ x : Int, 0 ≤ x * x ∧ (x ≠ 0 → 0 < x * x) := fun x => by
    rcases Int.lt_trichotomy x 0 with h | h | h
    · have := Int.mul_pos_of_neg_of_neg h h; omega
    · subst h; simp
    · have := Int.mul_pos h h; omega
  have h1 := sq h.a
  have h2 := sq h.b
  unfold HNz at n
  by_cases e : h.a = 0
  · have := h2.2 (by omega); omega
  · have := h1.2 e; omega
theorem crD_pos {h g : Half} (e : hcrs h g ≠ 0) : 0 < crD h g := by unfold crD; split <;> omega
theorem crD_zero {h g : Half} (e : hcrs h g = 0) : crD h g = 0 := by unfold crD; rw [e]; simp
theorem crD_eq0 {h g : Half} : crD h g = 0 ↔ hcrs h g = 0 := by unfold crD; split <;> omega
/-- The crossing lies on the first border. -/
theorem cr_on (h g : Half) : h.a * crX h g + h.b * crY h g = h.c * crD h g := by
  unfold crX crY crD
  split <;> (simp only [hcrs]; grind)
/-- A half plane at the crossing. -/
theorem cr_in (h g f : Half) : f.c * crD h g - (f.a * crX h g + f.b * crY h g) = if hcrs h g < 0 then -hdet h g f else hdet h g f := by
  unfold crX crY crD
  split <;> (simp only [hcrs, hdet]; grind)
theorem pos_cmp {h g k : Half} (h1 : hcrs h g < 0) (h2 : 0 < hcrs h k) : gpos h k * crD h g - gpos h g * crD h k = nn2 h * hdet g h k := by
  unfold gpos crX crY crD
  rw [if_pos h1, if_pos h1, if_pos h1, if_neg (by omega), if_neg (by omega), if_neg (by omega)]
  simp only [nn2, hdet, hcrs]; grind
theorem pos_eq (h g k : Half) : gpos h g * crD h k - gpos h k * crD h g = 0 ↔ nn2 h * hdet h g k = 0 := by
  have id : (gpos h g * crD h k - gpos h k * crD h g = nn2 h * hdet h g k) ∨ (gpos h g * crD h k - gpos h k * crD h g = -(nn2 h * hdet h g k)) := by
    unfold gpos crX crY crD
    by_cases h1 : hcrs h g < 0 <;> by_cases h2 : hcrs h k < 0
    · right; simp only [if_pos h1, if_pos h2]; simp only [nn2, hdet, hcrs]; grind
    · left; simp only [if_pos h1, if_neg h2]; simp only [nn2, hdet, hcrs]; grind
    · left; simp only [if_neg h1, if_pos h2]; simp only [nn2, hdet, hcrs]; grind
    · right; simp only [if_neg h1, if_neg h2]; simp only [nn2, hdet, hcrs]; grind
  omega
/-- Two crossings on a border are the same point if their places are. -/
theorem same_pt {h g k : Half} (n : HNz h) : hdet h g k = 0 ↔ (crX h g * crD h k = crX h k * crD h g ∧ crY h g * crD h k = crY h k * crD h g) := by
  have hp := nn2_pos n
  have e1 := cr_on h g
  have e2 := cr_on h k
  have hq := pos_eq h g k
  constructor
  · intro hd
    have h3 := hq.2 (by rw [hd, Int.mul_zero])
    unfold gpos at h3
    unfold nn2 at hp
    generalize crX h g = x at *
    generalize crY h g = y at *
    generalize crD h g = d at *
    generalize crX h k = x' at *
    generalize crY h k = y' at *
    generalize crD h k = d' at *
    have i1 : (h.a * h.a + h.b * h.b) * (x * d' - x' * d) = 0 := by
      have a1 := congrArg (fun z => h.a * d' * z) e1
      have a2 := congrArg (fun z => h.a * d * z) e2
      have a3 := congrArg (fun z => h.b * z) h3
      grind
    have i2 : (h.a * h.a + h.b * h.b) * (y * d' - y' * d) = 0 := by
      have a1 := congrArg (fun z => h.b * d' * z) e1
      have a2 := congrArg (fun z => h.b * d * z) e2
      have a3 := congrArg (fun z => h.a * z) h3
      grind
    have j1 := gmz i1 (by omega)
    have j2 := gmz i2 (by omega)
    omega
  · rintro ⟨h1, h2⟩
    have : gpos h g * crD h k - gpos h k * crD h g = 0 := by
      unfold gpos
      generalize crX h g = x at *
      generalize crY h g = y at *
      generalize crD h g = d at *
      generalize crX h k = x' at *
      generalize crY h k = y' at *
      generalize crD h k = d' at *
      grind
    exact gmz (hq.1 this) (by omega)

/-! ### the program's search for the two ends of an gedge -/
structure GMk where
  n : Int
  d : Int
  is : Bool
def gnarrow (m : GMk) (n d : Int) (later : Bool) : GMk :=
  if m.is = true ∧ ((later = true ∧ cmpF n d m.n m.d ≤ 0) ∨ (later = false ∧ 0 ≤ cmpF n d m.n m.d)) then m else ⟨n, d, true⟩
def half0 : Half := ⟨0, 0, 0⟩
def edAt (l : List Half) (h : Half) : Nat → GMk × GMk
  | 0 => (⟨0, 0, false⟩, ⟨0, 0, false⟩)
  | i + 1 => if hcrs h (l.getD i half0) = 0 then edAt l h i else if 0 < hcrs h (l.getD i half0) then ((edAt l h i).1, gnarrow (edAt l h i).2 (gpos h (l.getD i half0)) (crD h (l.getD i half0)) false) else (gnarrow (edAt l h i).1 (gpos h (l.getD i half0)) (crD h (l.getD i half0)) true, (edAt l h i).2)
def edB (st : GMk × GMk) : Bool := st.1.is && st.2.is && decide (cmpF st.1.n st.1.d st.2.n st.2.d < 0)
def gedge (l : List Half) (h : Half) : Bool := edB (edAt l h l.length)

/-- The chain rule of fractions. -/
theorem gfrac_trans {a b c d e f : Int} (hd : 0 < d) (hb : 0 ≤ b) (hf : 0 ≤ f) (h1 : a * d ≤ c * b) (h2 : c * f ≤ e * d) : a * f ≤ e * b := by
  have p1 := Int.mul_le_mul_of_nonneg_right h1 hf
  have p2 := Int.mul_le_mul_of_nonneg_right h2 hb
  have id : d * (e * b - a * f) = e * d * b - a * d * f := by grind
  have e2 : c * b * f = c * f * b := by grind
  have := gmn (a := d) (b := e * b - a * f) (by rw [id]; omega) hd
  omega

structure EdInv (l : List Half) (h : Half) (i : Nat) (st : GMk × GMk) : Prop where
  f1 : st.1.is = true → ∃ j, j < i ∧ hcrs h (l.getD j half0) < 0 ∧ st.1.n = gpos h (l.getD j half0) ∧ st.1.d = crD h (l.getD j half0)
  f2 : ∀ j, j < i → hcrs h (l.getD j half0) < 0 → st.1.is = true ∧ gpos h (l.getD j half0) * st.1.d ≤ st.1.n * crD h (l.getD j half0)
  t1 : st.2.is = true → ∃ j, j < i ∧ 0 < hcrs h (l.getD j half0) ∧ st.2.n = gpos h (l.getD j half0) ∧ st.2.d = crD h (l.getD j half0)
  t2 : ∀ j, j < i → 0 < hcrs h (l.getD j half0) → st.2.is = true ∧ st.2.n * crD h (l.getD j half0) ≤ gpos h (l.getD j half0) * st.2.d

theorem edAt_inv (l : List Half) (h : Half) : ∀ i, EdInv l h i (edAt l h i)
  | 0 => ⟨by simp [edAt], by simp, by simp [edAt], by simp⟩
  | i + 1 => by
    have I := edAt_inv l h i
    unfold edAt
    generalize edAt l h i = st at *
    obtain ⟨fr, to⟩ := st
    obtain ⟨f1, f2, t1, t2⟩ := I
    simp only at f1 f2 t1 t2
    have up : ∀ {P : Nat → Prop}, (∃ j, j < i ∧ P j) → ∃ j, j < i + 1 ∧ P j := fun ⟨j, h1, h2⟩ => ⟨j, by omega, h2⟩
    have split1 : ∀ {P : Nat → Prop}, (∀ j, j < i → P j) → P i → ∀ j, j < i + 1 → P j := fun h1 h2 j hj => by
      rcases Nat.lt_or_ge j i with h3 | h3
      · exact h1 j h3
      · obtain rfl : j = i := by omega
        exact h2
    generalize hg : l.getD i half0 = g at *
    by_cases h0 : hcrs h g = 0
    · rw [if_pos h0]
      exact ⟨fun x => up (f1 x), split1 f2 (by rw [hg]; intro; omega), fun x => up (t1 x), split1 t2 (by rw [hg]; intro; omega)⟩
    · rw [if_neg h0]
      have hd := crD_pos h0
      by_cases hp : 0 < hcrs h g
      · rw [if_pos hp]
        refine ⟨fun x => up (f1 x), split1 f2 (by rw [hg]; intro; omega), fun _ => ?_, ?_⟩
        · simp only
          unfold gnarrow
          split
          · rename_i hc; exact up (t1 hc.1)
          · exact ⟨i, by omega, by rw [hg]; exact ⟨hp, rfl, rfl⟩⟩
        · simp only
          unfold gnarrow
          split
          · rename_i hc
            refine split1 t2 ?_
            rw [hg]
            intro _
            have := hc.2
            simp only [Bool.false_eq_true, false_and, true_and, false_or, cmpF, gsgn_ge] at this
            exact ⟨hc.1, by omega⟩
          · rename_i hc
            refine split1 (fun j hj hpj => ?_) ?_
            · obtain ⟨h1, h2⟩ := t2 j hj hpj
              refine ⟨rfl, ?_⟩
              simp only
              have h3 : gpos h g * to.d < to.n * crD h g := by
                rw [not_and] at hc
                have := hc h1
                simp only [Bool.false_eq_true, false_and, true_and, false_or, cmpF, gsgn_ge] at this
                omega
              obtain ⟨j', _, hx, _, hd'⟩ := t1 h1
              exact gfrac_trans (by rw [hd']; exact crD_pos (by omega)) (Int.le_of_lt hd) (Int.le_of_lt (crD_pos (by omega))) (Int.le_of_lt h3) h2
            · rw [hg]
              intro _
              exact ⟨rfl, Int.le_refl _⟩
      · rw [if_neg hp]
        have hm : hcrs h g < 0 := by omega
        refine ⟨fun _ => ?_, ?_, fun x => up (t1 x), split1 t2 (by rw [hg]; intro; omega)⟩
        · simp only
          unfold gnarrow
          split
          · rename_i hc; exact up (f1 hc.1)
          · exact ⟨i, by omega, by rw [hg]; exact ⟨hm, rfl, rfl⟩⟩
        · simp only
          unfold gnarrow
          split
          · rename_i hc
            refine split1 f2 ?_
            rw [hg]
            intro _
            have := hc.2
            simp only [Bool.true_eq_false, false_and, true_and, or_false, cmpF, gsgn_le] at this
            exact ⟨hc.1, by omega⟩
          · rename_i hc
            refine split1 (fun j hj hpj => ?_) ?_
            · obtain ⟨h1, h2⟩ := f2 j hj hpj
              refine ⟨rfl, ?_⟩
              simp only
              have h3 : fr.n * crD h g < gpos h g * fr.d := by
                rw [not_and] at hc
                have := hc h1
                simp only [Bool.true_eq_false, false_and, true_and, or_false, cmpF, gsgn_le] at this
                omega
              obtain ⟨j', _, hx, _, hd'⟩ := f1 h1
              exact gfrac_trans (by rw [hd']; exact crD_pos (by omega)) (Int.le_of_lt (crD_pos (by omega))) (Int.le_of_lt hd) h2 (Int.le_of_lt h3)
            · rw [hg]
              intro _
              exact ⟨rfl, Int.le_refl _⟩

theorem gget_mem {l : List Half} {j : Nat} (h : j < l.length) : l.getD j half0 ∈ l := by
  rw [List.getD_eq_getElem?_getD, List.getElem?_eq_getElem h]; exact List.getElem_mem h
theorem gmem_get {l : List Half} {x : Half} (h : x ∈ l) : ∃ j, j < l.length ∧ l.getD j half0 = x := by
  obtain ⟨j, hj, he⟩ := List.mem_iff_getElem.1 h
  exact ⟨j, hj, by rw [List.getD_eq_getElem?_getD, List.getElem?_eq_getElem hj]; exact he⟩

/-- The program's test is the gedge. -/
theorem edge_iff {l : List Half} (g : GGood l) {h : Half} (n : HNz h) : gedge l h = true ↔ GEdge hcrs hdet l h := by
  have I := edAt_inv l h l.length
  have hp := nn2_pos n
  unfold gedge edB
  generalize edAt l h l.length = st at *
  obtain ⟨fr, to⟩ := st
  obtain ⟨f1, f2, t1, t2⟩ := I
  simp only at f1 f2 t1 t2
  obtain ⟨⟨a, ha, ha'⟩, ⟨b, hb, hb'⟩⟩ := g.around n
  obtain ⟨ja, hja, ea⟩ := gmem_get ha
  obtain ⟨jb, hjb, eb⟩ := gmem_get hb
  have ft := (f2 jb hjb (by rw [eb]; exact hb')).1
  have tt := (t2 ja hja (by rw [ea]; exact ha')).1
  simp only [ft, tt, Bool.true_and, Bool.and_true, decide_eq_true_eq, cmpF, gsgn_lt]
  obtain ⟨p, hp1, hp2, hp3, hp4⟩ := f1 ft
  obtain ⟨q, hq1, hq2, hq3, hq4⟩ := t1 tt
  have hpd : 0 < fr.d := by rw [hp4]; exact crD_pos (by omega)
  have hqd : 0 < to.d := by rw [hq4]; exact crD_pos (by omega)
  constructor
  · intro hlt x hx y hy h1 h2
    have h1' : hcrs h x < 0 := by have := crs_anti x h; omega
    obtain ⟨jx, hjx, ex⟩ := gmem_get hx
    obtain ⟨jy, hjy, ey⟩ := gmem_get hy
    have k1 := (f2 jx hjx (by rw [ex]; exact h1')).2
    have k2 := (t2 jy hjy (by rw [ey]; exact h2)).2
    rw [ex] at k1
    rw [ey] at k2
    have dx := crD_pos (h := h) (g := x) (by omega)
    have dy := crD_pos (h := h) (g := y) (by omega)
    have c := pos_cmp h1' h2
    -- gpos x / dx ≤ fr < to ≤ gpos y / dy
    have p1 := Int.mul_le_mul_of_nonneg_right k1 (Int.le_of_lt hqd)
    have p2 : fr.n * to.d * crD h x < to.n * fr.d * crD h x := Int.mul_lt_mul_of_pos_right (by omega) dx
    have e1 : fr.n * crD h x * to.d = fr.n * to.d * crD h x := by grind
    have e2 : gpos h x * fr.d * to.d = fr.d * (gpos h x * to.d) := by grind
    have e3 : to.n * fr.d * crD h x = fr.d * (to.n * crD h x) := by grind
    have s1 : gpos h x * to.d < to.n * crD h x := by
      have : 0 < fr.d * (to.n * crD h x - gpos h x * to.d) := by rw [Int.mul_sub]; omega
      have := gmp this hpd; omega
    have p3 : gpos h x * to.d * crD h y < to.n * crD h x * crD h y := Int.mul_lt_mul_of_pos_right s1 dy
    have p4 := Int.mul_le_mul_of_nonneg_right k2 (Int.le_of_lt dx)
    have e4 : to.n * crD h y * crD h x = to.n * crD h x * crD h y := by grind
    have e5 : to.d * (gpos h y * crD h x - gpos h x * crD h y) = gpos h y * to.d * crD h x - gpos h x * to.d * crD h y := by grind
    have s2 := gmp (a := to.d) (b := gpos h y * crD h x - gpos h x * crD h y) (by rw [e5]; omega) hqd
    rw [c] at s2
    exact gmp s2 hp
  · intro E
    have c := pos_cmp hp2 hq2
    have hd := E _ (gget_mem hp1) _ (gget_mem hq1) (by have := crs_anti (l.getD p half0) h; omega) hq2
    have := Int.mul_pos hp hd
    rw [hp3, hp4, hq3, hq4]
    omega
end Go.Proofs.Ytbdihgcjopbnjaa
