/-
  The functions on records: what they return.
  Conditions: the slice reads as a list of at most 2^20 records.
-/
import Derived.Test.YtbdihgcjopbnjaaGreatGrC
import Derived.Test.YtbdihgcjopbnjaaGreatGrA
import Derived.Test.YtbdihgcjopbnjaaGreatGrD
section
namespace Go.Proofs.YtbdihgcjopbnjaaGreat
open Go.RowKit

def recOk (x : Record) : Bool := inR x.before (-1000) 1000 && inR x.input (-1000) 1000 && inR x.after (-1000) 1000
def recordsOk (xs : List Record) : Bool := xs.all recOk && decide (xs.length ≤ 12)
theorem recordsOk_no {xs : List Record} {k : Nat} (h : k < xs.length) (hk : recOk xs[k] = false) : recordsOk xs = false := by
  have : xs.all recOk = false := by rw [List.all_eq_false]; exact ⟨_, List.getElem_mem h, by simp [hk]⟩
  simp [recordsOk, this]
theorem all_take_succ {α : Type} {p : α → Bool} {xs : List α} {k : Nat} (h : k < xs.length) (h1 : (xs.take k).all p = true) (h2 : p xs[k] = true) : (xs.take (k + 1)).all p = true := by
  rw [take_succ' xs k h, List.all_append, h1]; simp [h2]

end Go.Proofs.YtbdihgcjopbnjaaGreat
end

section
namespace Go.Proofs.YtbdihgcjopbnjaaGreat
open Go.RowKit

theorem red3 {a b c : Int} (h : 0 < gcdAll [a, b, c]) : gcdAll [a.tdiv (gcdAll [a, b, c]), b.tdiv (gcdAll [a, b, c]), c.tdiv (gcdAll [a, b, c])] = 1 := by
  have e := gcd3 a b c
  rw [gcd3 (a.tdiv _)]
  simp only [natAbs_tdiv]
  generalize gcdAll [a, b, c] = g at *
  have d1 : g ∣ a.natAbs := by rw [e]; exact Nat.dvd_trans (Nat.gcd_dvd_left _ _) (Nat.gcd_dvd_left _ _)
  have d2 : g ∣ b.natAbs := by rw [e]; exact Nat.dvd_trans (Nat.gcd_dvd_left _ _) (Nat.gcd_dvd_right _ _)
  have d3 : g ∣ c.natAbs := by rw [e]; exact Nat.gcd_dvd_right _ _
  rw [Nat.gcd_div d1 d2, Nat.gcd_div (Nat.dvd_gcd d1 d2) d3, ← e]
  exact Nat.div_self h

theorem halfOf_some {a b c : Int} (ha : -50000 ≤ a ∧ a ≤ 50000) (hb : -50000 ≤ b ∧ b ≤ 50000) (hc : -100000000 ≤ c ∧ c ≤ 100000000) (h0 : ¬(a = 0 ∧ b = 0)) : halfOf a b c = some (redHalf a b c) := by
  have hg : 0 < gcdAll [a, b, c] := by
    rw [gcd3]
    apply Nat.gcd_pos_of_pos_left
    rcases Nat.eq_zero_or_pos (Nat.gcd a.natAbs b.natAbs) with h | h
    · rw [Nat.gcd_eq_zero_iff] at h; omega
    · exact h
  unfold halfOf
  rw [if_neg (by simp [isMin_no (a := a) (by omega), isMin_no (a := b) (by omega), isMin_no (a := c) (by omega)]; omega), if_pos]
  rw [halfOk_iff]
  have t1 := tdiv_le a (gcdAll [a, b, c]) 50000 (by omega) (by omega)
  have t2 := tdiv_le b (gcdAll [a, b, c]) 50000 (by omega) (by omega)
  have t3 := tdiv_le c (gcdAll [a, b, c]) 100000000 (by omega) (by omega)
  refine ⟨t1, t2, t3, ?_, red3 hg⟩
  intro ⟨z1, z2⟩
  apply h0
  have n1 := natAbs_tdiv a (gcdAll [a, b, c])
  have n2 := natAbs_tdiv b (gcdAll [a, b, c])
  have d1 : gcdAll [a, b, c] ∣ a.natAbs := by rw [gcd3]; exact Nat.dvd_trans (Nat.gcd_dvd_left _ _) (Nat.gcd_dvd_left _ _)
  have d2 : gcdAll [a, b, c] ∣ b.natAbs := by rw [gcd3]; exact Nat.dvd_trans (Nat.gcd_dvd_left _ _) (Nat.gcd_dvd_right _ _)
  have z1' : a.tdiv (gcdAll [a, b, c]) = 0 := z1
  have z2' : b.tdiv (gcdAll [a, b, c]) = 0 := z2
  rw [z1'] at n1
  rw [z2'] at n2
  have e1 := Nat.div_mul_cancel d1
  have e2 := Nat.div_mul_cancel d2
  rw [← n1] at e1
  rw [← n2] at e2
  simp at e1 e2
  omega

theorem halfOf_zero {a b c : Int} (h0 : a = 0 ∧ b = 0) : halfOf a b c = none := by
  obtain ⟨rfl, rfl⟩ := h0
  unfold halfOf
  split
  · rfl
  · rw [if_neg]; simp [halfOk, redHalf]

def recH1 (x : Record) (err : Int) : Half := redHalf x.before x.input (100 * (x.after + err))
def recH2 (x : Record) (err : Int) : Half := redHalf (-x.before) (-x.input) (100 * (err - x.after))
def recordHalves (x : Record) (err : Int) : List Half :=
  if recOk x = true ∧ inR err 0 1000 = true ∧ ¬(x.before = 0 ∧ x.input = 0) then [recH1 x err, recH2 x err] else []
theorem recOk_iff {x : Record} : recOk x = true ↔ (-1000 ≤ x.before ∧ x.before ≤ 1000) ∧ (-1000 ≤ x.input ∧ x.input ≤ 1000) ∧ (-1000 ≤ x.after ∧ x.after ≤ 1000) := by
  simp only [recOk, Bool.and_eq_true, inR_iff, and_assoc]
theorem recordsOk_one (x : Record) : recordsOk [x] = recOk x := by simp [recordsOk]

theorem iHalfOf_s (a b c : Int) (h : Half) (he : halfOf a b c = some h) (w : World) (ha : In64 a) (hb : In64 b) (hc : In64 c) :
    Calls Tryz.prog 95 #[.int .i64 a, .int .i64 b, .int .i64 c] w fun e w' => e = .returned (.tuple #[.agg #[.int .i64 h.a, .int .i64 h.b, .int .i64 h.c], .bool true]) ∧ Below w.heap.size w w' := by
  have := iHalfOf_c a b c w ha hb hc
  rw [he] at this; exact this
theorem iHalfOf_n (a b c : Int) (he : halfOf a b c = none) (w : World) (ha : In64 a) (hb : In64 b) (hc : In64 c) :
    Calls Tryz.prog 95 #[.int .i64 a, .int .i64 b, .int .i64 c] w fun e w' => e = .returned (.tuple #[.agg #[.int .i64 0, .int .i64 0, .int .i64 0], .bool false]) ∧ Below w.heap.size w w' := by
  have := iHalfOf_c a b c w ha hb hc
  rw [he] at this; exact this

theorem sHalfOf_s (a b c : Int) (h : Half) (he : halfOf a b c = some h) (w : World) (ha : In64 a) (hb : In64 b) (hc : In64 c) :
    Calls Tryz.prog 65 #[.int .i64 a, .int .i64 b, .int .i64 c] w fun e w' => e = .returned (.tuple #[.agg #[.int .i64 h.a, .int .i64 h.b, .int .i64 h.c], .bool true]) ∧ Below w.heap.size w w' := by
  have := sHalfOf_c a b c w ha hb hc
  rw [he] at this; exact this

end Go.Proofs.YtbdihgcjopbnjaaGreat
end

section
namespace Go.Proofs.YtbdihgcjopbnjaaGreat
open Go.RowKit

end Go.Proofs.YtbdihgcjopbnjaaGreat
end
