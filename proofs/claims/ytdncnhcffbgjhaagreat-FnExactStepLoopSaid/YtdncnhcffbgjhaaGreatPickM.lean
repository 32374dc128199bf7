/-
 The input that is picked: both ways to tell it agree. No program is named here.
 Conditions: none.
-/
import Derived.Test.YtdncnhcffbgjhaaGreatAdmD
namespace Go.Proofs.YtdncnhcffbgjhaaGreat
open Go.RowKit
def ratFloor (r : Ratio) : Int := if ratioOk r = true then r.n / r.d else 0
def ratCeil (r : Ratio) : Int := if ratioOk r = true then -(-r.n / r.d) else 0
def inSpan (w : Span) (u : Ratio) : Bool := spanOk w && ratioOk u && decide (ratioCmp w.low u ≤ 0) && decide (ratioCmp u w.high ≤ 0)
theorem ratio_whole {n : Int} (h : -1000000000000000000 ≤ n ∧ n ≤ 1000000000000000000) : ratioOf n 1 = ⟨n, 1⟩ := by
 obtain ⟨_, k, hk, e1, e2⟩ := ratioOf_scale (n := n) (d := 1) h ⟨by omega, by omega⟩
 have h1 : k ∣ 1 := ⟨_, e2⟩
 have h2 : k ≤ 1 := Int.le_of_dvd (by omega) h1
 have h3 : k = 1 := by omega
 subst h3
 rw [Int.one_mul] at e1 e2
 cases hq : ratioOf n 1 with
 | mk a b => rw [hq] at e1 e2; simp only at e1 e2; rw [e1, ← e2]
theorem whole_ok {n : Int} (h : -1000000000000000000 ≤ n ∧ n ≤ 1000000000000000000) : ratioOk ⟨n, 1⟩ = true := by
 have := (ratioOf_scale (n := n) (d := 1) h ⟨by omega, by omega⟩).1
 rwa [ratio_whole h] at this
theorem rok_bd {r : Ratio} (h : ratioOk r = true) : -9223372036854775807 ≤ r.n ∧ r.n ≤ 9223372036854775807 ∧ 0 < r.d ∧ r.d ≤ 9223372036854775807 := by
 obtain ⟨⟨a, b⟩, ⟨c, d⟩, _⟩ := ratioOk_iff.1 h
 exact ⟨by omega, by omega, by omega, by omega⟩
theorem div_bd {n d : Int} (h1 : -9223372036854775807 ≤ n) (h2 : n ≤ 9223372036854775807) (hd : 0 < d) : -9223372036854775807 ≤ n / d ∧ n / d ≤ 9223372036854775807 := floor_le hd 9223372036854775807 (by omega) (by omega) (by omega)
theorem floor_bd {r : Ratio} (h : ratioOk r = true) : -1000000000000000000 ≤ ratFloor r ∧ ratFloor r ≤ 1000000000000000000 := by
 obtain ⟨⟨a, b⟩, ⟨c, d⟩, _⟩ := ratioOk_iff.1 h
 unfold ratFloor
 rw [if_pos h]
 exact floor_le (by omega) 1000000000000000000 (by omega) (by omega) (by omega)
theorem ceil_bd {r : Ratio} (h : ratioOk r = true) : -1000000000000000000 ≤ ratCeil r ∧ ratCeil r ≤ 1000000000000000000 := by
 obtain ⟨⟨a, b⟩, ⟨c, d⟩, _⟩ := ratioOk_iff.1 h
 unfold ratCeil
 rw [if_pos h]
 have := floor_le (n := -r.n) (d := r.d) (by omega) 1000000000000000000 (by omega) (by omega) (by omega)
 omega
theorem sgn_cases (x : Int) : (x < 0 ∧ sgn x = -1) ∨ (x = 0 ∧ sgn x = 0) ∨ (0 < x ∧ sgn x = 1) := by
 unfold sgn
 rcases Int.lt_trichotomy x 0 with h | h | h
 ·exact .inl ⟨h, by rw [if_pos h]⟩
 ·exact .inr (.inl ⟨h, by rw [if_neg (by omega), if_neg (by omega)]⟩)
 ·exact .inr (.inr ⟨h, by rw [if_neg (by omega), if_pos h]⟩)
theorem cmp_def {r s : Ratio} (hr : ratioOk r = true) (hs : ratioOk s = true) : ratioCmp r s = sgn (r.n * s.d - s.n * r.d) := by
 unfold ratioCmp; rw [if_pos ⟨hr, hs⟩]; rfl
/-- A whole number against a fraction: by the fraction rounded up. -/
theorem cmp_ceil {n : Int} {r : Ratio} (hn : -1000000000000000000 ≤ n ∧ n ≤ 1000000000000000000) (hr : ratioOk r = true) : (ratioCmp ⟨n, 1⟩ r < 0 ↔ n < ratCeil r) ∧ (0 ≤ ratioCmp ⟨n, 1⟩ r ↔ ratCeil r ≤ n) := by
 have hd := (ratioOk_iff.1 hr).1
 rw [cmp_def (whole_ok hn) hr]
 unfold ratCeil
 rw [if_pos hr]
 simp only [Int.mul_one]
 have k : -n ≤ -r.n / r.d ↔ -n * r.d ≤ -r.n := Int.le_ediv_iff_mul_le (by omega)
 rw [Int.neg_mul] at k
 rcases sgn_cases (n * r.d - r.n) with ⟨h1, h2⟩ | ⟨h1, h2⟩ | ⟨h1, h2⟩ <;> rw [h2] <;> constructor <;> constructor <;> intro h <;> omega
theorem cmp_floor {n : Int} {r : Ratio} (hn : -1000000000000000000 ≤ n ∧ n ≤ 1000000000000000000) (hr : ratioOk r = true) : (ratioCmp ⟨n, 1⟩ r ≤ 0 ↔ n ≤ ratFloor r) ∧ (0 < ratioCmp ⟨n, 1⟩ r ↔ ratFloor r < n) := by
 have hd := (ratioOk_iff.1 hr).1
 rw [cmp_def (whole_ok hn) hr]
 unfold ratFloor
 rw [if_pos hr]
 simp only [Int.mul_one]
 have k : n ≤ r.n / r.d ↔ n * r.d ≤ r.n := Int.le_ediv_iff_mul_le (by omega)
 rcases sgn_cases (n * r.d - r.n) with ⟨h1, h2⟩ | ⟨h1, h2⟩ | ⟨h1, h2⟩ <;> rw [h2] <;> constructor <;> constructor <;> intro h <;> omega
theorem cmp_swap (r s : Ratio) : ratioCmp s r = -ratioCmp r s := by
 unfold ratioCmp
 by_cases h : ratioOk r = true ∧ ratioOk s = true
 ·rw [if_pos h, if_pos ⟨h.2, h.1⟩]; exact cmpF_swap _ _ _ _
 ·rw [if_neg h, if_neg (fun q => h ⟨q.2, q.1⟩)]; rfl
theorem cmp_eq {r s : Ratio} (hr : ratioOk r = true) (hs : ratioOk s = true) (h : ratioCmp r s = 0) : r = s := by
 obtain ⟨⟨a1, _⟩, _, a3⟩ := ratioOk_iff.1 hr
 obtain ⟨⟨b1, _⟩, _, b3⟩ := ratioOk_iff.1 hs
 rw [cmp_def hr hs] at h
 have e : r.n * s.d = s.n * r.d := by
  rcases sgn_cases (r.n * s.d - s.n * r.d) with ⟨h1, h2⟩ | ⟨h1, h2⟩ | ⟨h1, h2⟩ <;> rw [h2] at h <;> omega
 have e2 : r.n.natAbs * s.d.natAbs = s.n.natAbs * r.d.natAbs := by rw [← Int.natAbs_mul, ← Int.natAbs_mul, e]
 have d1 : r.d.natAbs ∣ s.d.natAbs := by
  have h1 : r.d.natAbs ∣ r.n.natAbs * s.d.natAbs := ⟨s.n.natAbs, by rw [e2, Nat.mul_comm]⟩
  exact Nat.Coprime.dvd_of_dvd_mul_left (show Nat.Coprime r.d.natAbs r.n.natAbs by unfold Nat.Coprime; rw [Nat.gcd_comm]; exact a3) h1
 have d2 : s.d.natAbs ∣ r.d.natAbs := by
  have h1 : s.d.natAbs ∣ s.n.natAbs * r.d.natAbs := ⟨r.n.natAbs, by rw [← e2, Nat.mul_comm]⟩
  exact Nat.Coprime.dvd_of_dvd_mul_left (show Nat.Coprime s.d.natAbs s.n.natAbs by unfold Nat.Coprime; rw [Nat.gcd_comm]; exact b3) h1
 have e3 := Nat.dvd_antisymm d1 d2
 have e4 : r.d = s.d := by omega
 have e5 : r.n = s.n := by
  rw [e4] at e
  exact Int.eq_of_mul_eq_mul_right (by omega) e
 cases r; cases s
 simp only at e4 e5
 rw [e4, e5]
def clampW (wish : Int) : Int := max (-1000) (min 1000 wish)
theorem clampW_bd (wish : Int) : -1000 ≤ clampW wish ∧ clampW wish ≤ 1000 := by unfold clampW; omega
def pick (v : Span) (wish : Int) : Ratio :=
 if spanOk v = true then
  (if ratioCmp ⟨clampW wish, 1⟩ v.low < 0 then (if ratioCmp ⟨ratCeil v.low, 1⟩ v.high ≤ 0 then ⟨ratCeil v.low, 1⟩ else v.low)
  else if ratioCmp ⟨clampW wish, 1⟩ v.high > 0 then (if ratioCmp ⟨ratFloor v.high, 1⟩ v.low ≥ 0 then ⟨ratFloor v.high, 1⟩ else v.high)
  else ⟨clampW wish, 1⟩)
 else ratio0
section
variable {v : Span} {wish : Int} (h : spanOk v = true)
include h
theorem pick_in (hi : inSpan v ⟨clampW wish, 1⟩ = true) : pick v wish = ⟨clampW wish, 1⟩ := by
 simp only [inSpan, Bool.and_eq_true, decide_eq_true_eq] at hi
 have h1 := cmp_swap ⟨clampW wish, 1⟩ v.low
 unfold pick
 rw [if_pos h, if_neg (by omega), if_neg (by omega)]
theorem pick_clamp (hi : inSpan v ⟨clampW wish, 1⟩ = false) (hc : ratCeil v.low ≤ ratFloor v.high) : pick v wish = ⟨max (ratCeil v.low) (min (clampW wish) (ratFloor v.high)), 1⟩ := by
 obtain ⟨o1, o2⟩ := spanOk_r h
 have hb := clampW_bd wish
 have a := cmp_ceil (n := clampW wish) ⟨by omega, by omega⟩ o1
 have b := cmp_floor (n := clampW wish) ⟨by omega, by omega⟩ o2
 have c := (cmp_floor (n := ratCeil v.low) (ceil_bd o1) o2).1
 have d := (cmp_ceil (n := ratFloor v.high) (floor_bd o2) o1).2
 have h1 := cmp_swap ⟨clampW wish, 1⟩ v.low
 have key : ratioCmp ⟨clampW wish, 1⟩ v.low < 0 ∨ 0 < ratioCmp ⟨clampW wish, 1⟩ v.high := by
  rcases Int.lt_or_le (ratioCmp ⟨clampW wish, 1⟩ v.low) 0 with q | q
  ·exact .inl q
  rcases Int.lt_or_le 0 (ratioCmp ⟨clampW wish, 1⟩ v.high) with q2 | q2
  ·exact .inr q2
  exfalso
  have : inSpan v ⟨clampW wish, 1⟩ = true := by
   simp only [inSpan, Bool.and_eq_true, decide_eq_true_eq]
   exact ⟨⟨⟨h, whole_ok ⟨by omega, by omega⟩⟩, by omega⟩, q2⟩
  rw [this] at hi; cases hi
 unfold pick
 rw [if_pos h]
 by_cases q : ratioCmp ⟨clampW wish, 1⟩ v.low < 0
 ·rw [if_pos q, if_pos (c.2 hc)]
  have := a.1.1 q
  congr 1
  omega
 ·have q2 : ratioCmp ⟨clampW wish, 1⟩ v.high > 0 := by omega
  rw [if_neg q, if_pos q2, if_pos (d.2 hc)]
  have := b.2.1 q2
  congr 1
  omega
theorem pick_mid (_ : inSpan v ⟨clampW wish, 1⟩ = false) (hc : ¬ ratCeil v.low ≤ ratFloor v.high) : pick v wish = ratioMin v.high (ratioMax v.low ⟨clampW wish, 1⟩) := by
 obtain ⟨o1, o2⟩ := spanOk_r h
 have hb := clampW_bd wish
 have o3 := whole_ok (n := clampW wish) ⟨by omega, by omega⟩
 have a := cmp_ceil (n := clampW wish) ⟨by omega, by omega⟩ o1
 have b := cmp_floor (n := clampW wish) ⟨by omega, by omega⟩ o2
 have c := (cmp_floor (n := ratCeil v.low) (ceil_bd o1) o2).1
 have d := (cmp_ceil (n := ratFloor v.high) (floor_bd o2) o1).2
 have h1 := cmp_swap ⟨clampW wish, 1⟩ v.low
 have h2 := cmp_swap ⟨clampW wish, 1⟩ v.high
 have h3 := cmp_swap v.low v.high
 have hlh : ratioCmp v.low v.high ≤ 0 := by
  simp only [spanOk, Bool.and_eq_true, decide_eq_true_eq] at h
  exact h.2
 unfold pick
 rw [if_pos h]
 by_cases q : ratioCmp ⟨clampW wish, 1⟩ v.low < 0
 ·rw [if_pos q, if_neg (fun x => hc (c.1 x))]
  have e1 : ratioMax v.low ⟨clampW wish, 1⟩ = v.low := by
   unfold ratioMax; rw [if_pos ⟨o1, o3⟩, if_pos (by omega)]
  rw [e1]
  unfold ratioMin
  rw [if_pos ⟨o2, o1⟩]
  split
  ·exact cmp_eq o1 o2 (by omega)
  ·rfl
 ·have q3 := a.2.1 (by omega)
  have q2 : ratioCmp ⟨clampW wish, 1⟩ v.high > 0 := b.2.2 (by omega)
  rw [if_neg q, if_pos q2, if_neg (fun x => hc (d.1 x))]
  have e1 : ratioMax v.low ⟨clampW wish, 1⟩ = ⟨clampW wish, 1⟩ := by
   unfold ratioMax; rw [if_pos ⟨o1, o3⟩]
   split
   ·exact cmp_eq o1 o3 (by omega)
   ·rfl
  rw [e1]
  unfold ratioMin
  rw [if_pos ⟨o2, o3⟩, if_pos (by omega)]
end
end Go.Proofs.YtdncnhcffbgjhaaGreat
