/-
  Distances of records, LeastError and IsConsistent: of the program and of the reference.
  Conditions: the slice reads as a list of at most 2^20 records.
-/
import Derived.Test.YtbdihgcjopbnjaaGreatGrF
import Derived.Test.YtbdihgcjopbnjaaGreatGrE
import Derived.Test.YtbdihgcjopbnjaaGreatGrG
import Derived.Deep.RegionHeld3
import Derived.Deep.DeepCutAuto
import Derived.Deep.DeepMust
section
namespace Go.Proofs.YtbdihgcjopbnjaaGreat
open Go.RowKit

def distR (x : Record) (s : Spot) : Int := max (s.x * x.before + s.y * x.input - 100 * x.after * s.d) (-(s.x * x.before + s.y * x.input - 100 * x.after * s.d))
def areParams (s : Spot) : Bool := spotOk s && decide (s.d ≤ 1000)
def maxDist (xs : List Record) (s : Spot) : Int := xs.foldl (fun m x => max m (distR x s)) 0
theorem maxDist_snoc (xs : List Record) (x : Record) (s : Spot) : maxDist (xs ++ [x]) s = max (maxDist xs s) (distR x s) := by simp [maxDist, List.foldl_append]
theorem maxDist_take {xs : List Record} {k : Nat} (h : k < xs.length) (s : Spot) : maxDist (xs.take (k + 1)) s = max (maxDist (xs.take k) s) (distR xs[k] s) := by
  rw [take_succ' xs k h, maxDist_snoc]
structure ParB (s : Spot) : Prop where
  d : 1 ≤ s.d ∧ s.d ≤ 1000
  x : -1000000 ≤ s.x ∧ s.x ≤ 1000000
  y : -1000000 ≤ s.y ∧ s.y ≤ 1000000
theorem parB {s : Spot} (h : areParams s = true) : ParB s := by
  simp only [areParams, Bool.and_eq_true, decide_eq_true_eq] at h
  have := spotOk_iff.1 h.1
  exact ⟨⟨by omega, by omega⟩, ⟨by omega, by omega⟩, ⟨by omega, by omega⟩⟩
structure DisB (x : Record) (s : Spot) : Prop where
  p : -1000000000 ≤ s.x * x.before ∧ s.x * x.before ≤ 1000000000
  q : -1000000000 ≤ s.y * x.input ∧ s.y * x.input ≤ 1000000000
  r : -100000000 ≤ 100 * x.after * s.d ∧ 100 * x.after * s.d ≤ 100000000
theorem mulB {a b A B : Int} (hA : -A ≤ a ∧ a ≤ A) (hB : -B ≤ b ∧ b ≤ B) : -(A * B) ≤ a * b ∧ a * b ≤ A * B := by
  have h1 : 0 ≤ (A - a) * (B - b) := Int.mul_nonneg (by omega) (by omega)
  have h2 : 0 ≤ (A + a) * (B + b) := Int.mul_nonneg (by omega) (by omega)
  have h3 : 0 ≤ (A - a) * (B + b) := Int.mul_nonneg (by omega) (by omega)
  have h4 : 0 ≤ (A + a) * (B - b) := Int.mul_nonneg (by omega) (by omega)
  rw [Int.sub_mul, Int.mul_sub, Int.mul_sub] at h1
  rw [Int.add_mul, Int.mul_add, Int.mul_add] at h2
  rw [Int.sub_mul, Int.mul_add, Int.mul_add] at h3
  rw [Int.add_mul, Int.mul_sub, Int.mul_sub] at h4
  omega
theorem disB {x : Record} {s : Spot} (hs : ParB s) (hb : -1000 ≤ x.before ∧ x.before ≤ 1000) (hi : -1000 ≤ x.input ∧ x.input ≤ 1000) (ha : -1000 ≤ x.after ∧ x.after ≤ 1000) : DisB x s := by
  have h1 := mulB hs.x hb
  have h2 := mulB hs.y hi
  have h3 := mulB (a := 100 * x.after) (b := s.d) (A := 100000) (B := 1000) ⟨by omega, by omega⟩ ⟨by have := hs.d; omega, by have := hs.d; omega⟩
  exact ⟨⟨by omega, by omega⟩, ⟨by omega, by omega⟩, ⟨by omega, by omega⟩⟩
theorem distR_bd {x : Record} {s : Spot} (h : DisB x s) : 0 ≤ distR x s ∧ distR x s ≤ 2100000000 := by
  obtain ⟨⟨p1, p2⟩, ⟨q1, q2⟩, ⟨r1, r2⟩⟩ := h
  unfold distR; omega
theorem maxDist_bd {s : Spot} : ∀ (xs : List Record), (∀ x ∈ xs, DisB x s) → 0 ≤ maxDist xs s ∧ maxDist xs s ≤ 2100000000 := by
  intro xs
  have key : ∀ (xs : List Record) (m : Int), (∀ x ∈ xs, DisB x s) → 0 ≤ m ∧ m ≤ 2100000000 → 0 ≤ xs.foldl (fun m x => max m (distR x s)) m ∧ xs.foldl (fun m x => max m (distR x s)) m ≤ 2100000000 := by
    intro xs
    induction xs with
    | nil => intro m _ h; exact h
    | cons x r ih =>
      intro m hx hm
      have hb := distR_bd (hx x (by simp))
      exact ih (max m (distR x s)) (fun y hy => hx y (by simp [hy])) (by omega)
  intro h
  exact key xs 0 h (by omega)
theorem maxDist_le {s : Spot} (T : Int) : ∀ (xs : List Record), 0 ≤ T → ((maxDist xs s ≤ T) ↔ ∀ x ∈ xs, distR x s ≤ T) := by
  intro xs h0
  have key : ∀ (xs : List Record) (m : Int), (xs.foldl (fun m x => max m (distR x s)) m ≤ T) ↔ (m ≤ T ∧ ∀ x ∈ xs, distR x s ≤ T) := by
    intro xs
    induction xs with
    | nil => intro m; simp
    | cons x r ih =>
      intro m
      rw [List.foldl_cons, ih]
      simp only [List.mem_cons, forall_eq_or_imp]
      constructor
      · intro ⟨h1, h2⟩; exact ⟨by omega, by omega, h2⟩
      · intro ⟨h1, h2, h3⟩; exact ⟨by omega, h3⟩
  unfold maxDist
  rw [key]
  simp [h0]
def leastOk (xs : List Record) (s : Spot) : Bool := recordsOk xs && areParams s
def leastError (xs : List Record) (s : Spot) : Ratio := if leastOk xs s = true then ratioOf (maxDist xs s) (100 * s.d) else ratio0
def isConsistent (xs : List Record) (err : Int) (s : Spot) : Bool := leastOk xs s && inR err 0 1000 && decide (maxDist xs s ≤ 100 * err * s.d)
theorem recordsOk_all {xs : List Record} (h : recordsOk xs = true) : ∀ x ∈ xs, (-1000 ≤ x.before ∧ x.before ≤ 1000) ∧ (-1000 ≤ x.input ∧ x.input ≤ 1000) ∧ (-1000 ≤ x.after ∧ x.after ≤ 1000) := by
  intro x hx
  simp only [recordsOk, Bool.and_eq_true, List.all_eq_true] at h
  have := h.1 x hx
  simp only [recOk, Bool.and_eq_true, inR_iff] at this
  exact ⟨this.1.1, this.1.2, this.2⟩
theorem recordsOk_len {xs : List Record} (h : recordsOk xs = true) : xs.length ≤ 12 := by
  simp only [recordsOk, Bool.and_eq_true, decide_eq_true_eq] at h; exact h.2
theorem leastOk_dis {xs : List Record} {s : Spot} (h1 : recordsOk xs = true) (h2 : areParams s = true) : ∀ x ∈ xs, DisB x s := by
  intro x hx
  obtain ⟨a, b, c⟩ := recordsOk_all h1 x hx
  exact disB (parB h2) a b c

end Go.Proofs.YtbdihgcjopbnjaaGreat
end

section
namespace Go.Proofs.YtbdihgcjopbnjaaGreat
open Go.RowKit

end Go.Proofs.YtbdihgcjopbnjaaGreat
end

section
namespace Go.Proofs.YtbdihgcjopbnjaaGreat
open Go.RowKit

end Go.Proofs.YtbdihgcjopbnjaaGreat
end

section
namespace Go.Proofs.YtbdihgcjopbnjaaGreat
open Go.RowKit

theorem below_al_at {a w : World} {B : Nat} (h : Below B a w) (hB : B ≤ w.heap.size) (o : Obj) : Below B a (w.alloc o) := h.alloc hB o

end Go.Proofs.YtbdihgcjopbnjaaGreat
end

section
namespace Go.Proofs.YtbdihgcjopbnjaaGreat
open Go.RowKit

theorem sgn_le {x : Int} : sgn x ≤ 0 ↔ x ≤ 0 := by unfold sgn; split <;> (try split) <;> omega
theorem consCmp {m d e : Int} (hm : 0 ≤ m ∧ m ≤ 2100000000) (hd : 1 ≤ d ∧ d ≤ 1000) (he : 0 ≤ e ∧ e ≤ 1000) : decide (ratioCmp (ratioOf m (100 * d)) (ratioOf e 1) ≤ 0) = decide (m ≤ 100 * e * d) := by
  rw [ratioCmp_of ⟨by omega, by omega⟩ ⟨by omega, by omega⟩ ⟨by omega, by omega⟩ ⟨by omega, by omega⟩]
  unfold cmpF
  have h : e * (100 * d) = 100 * e * d := by rw [← Int.mul_assoc, Int.mul_comm e 100]
  rw [Int.mul_one, h]
  rw [Bool.eq_iff_iff, decide_eq_true_eq, decide_eq_true_eq, sgn_le]
  omega
end Go.Proofs.YtbdihgcjopbnjaaGreat
end
