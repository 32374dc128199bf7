/-
  Fractions are compared as their unreduced forms. No program is named here.
  Conditions: none.
-/
import Derived.Test.YtelkcmchokajaaaCmp2
namespace Go.Proofs.Ytelkcmchokajaaa
open Go.RowKit

theorem sgn_scale {k x : Int} (hk : 0 < k) : sgn (k * x) = sgn x := by
  unfold sgn
  rcases Int.lt_trichotomy x 0 with h | h | h
  · have := Int.mul_neg_of_pos_of_neg hk h
    rw [if_pos this, if_pos h]
  · subst h; simp
  · have := Int.mul_pos hk h
    rw [if_neg (show ¬ k * x < 0 by omega), if_neg (show ¬ x < 0 by omega), if_pos this, if_pos h]
theorem cmpF_scale {k l a b c d : Int} (hk : 0 < k) (hl : 0 < l) : cmpF (k * a) (k * b) (l * c) (l * d) = cmpF a b c d := by
  unfold cmpF
  rw [← sgn_scale (x := a * d - c * b) (Int.mul_pos hk hl)]
  congr 1
  grind
/-- The reduced fraction is valid, and the given one a multiple of it. -/
theorem ratioOf_scale {n d : Int} (hn : -1000000000000000000 ≤ n ∧ n ≤ 1000000000000000000) (hd : 1 ≤ d ∧ d ≤ 1000000000000000) :
    ratioOk (ratioOf n d) = true ∧ ∃ k : Int, 0 < k ∧ n = k * (ratioOf n d).n ∧ d = k * (ratioOf n d).d := by
  have hg : gcdAll [n, d] = Nat.gcd n.natAbs d.natAbs := gcd_pair n d
  have hpos : 0 < gcdAll [n, d] := by rw [hg]; exact Nat.gcd_pos_of_pos_right _ (by omega)
  have h1 : gcdAll [n, d] ∣ n.natAbs := by rw [hg]; exact Nat.gcd_dvd_left _ _
  have h2 : gcdAll [n, d] ∣ d.natAbs := by rw [hg]; exact Nat.gcd_dvd_right _ _
  have e1 := Nat.mul_div_cancel' h1
  have e2 := Nat.mul_div_cancel' h2
  have l1 := Nat.div_le_self n.natAbs (gcdAll [n, d])
  have l2 := Nat.div_le_self d.natAbs (gcdAll [n, d])
  have hdef : ratioOf n d = if decide (n < 0) = decide (d < 0) then ⟨((n.natAbs / gcdAll [n, d] : Nat) : Int), ((d.natAbs / gcdAll [n, d] : Nat) : Int)⟩ else ⟨-((n.natAbs / gcdAll [n, d] : Nat) : Int), ((d.natAbs / gcdAll [n, d] : Nat) : Int)⟩ := by
    unfold ratioOf
    rw [if_neg (by rw [isMin_no (by omega), isMin_no (by omega)]; simp; omega), if_neg (by omega)]
  have hd0 : ¬ d < 0 := by omega
  have hne : ratioOf n d ≠ ratio0 := by
    intro e
    have hq : d.natAbs / gcdAll [n, d] = 0 := by
      rw [hdef] at e
      have : (ratio0).d = 0 := rfl
      rw [← e] at this
      split at this <;> simp only at this <;> omega
    rw [hq] at e2; omega
  refine ⟨ratioOf_ok.2 hne, (gcdAll [n, d] : Int), by omega, ?_, ?_⟩
  · rw [hdef]
    have e1' : ((gcdAll [n, d] : Nat) : Int) * ((n.natAbs / gcdAll [n, d] : Nat) : Int) = (n.natAbs : Int) := by rw [← Int.natCast_mul, e1]
    split
    · rename_i h; simp [hd0] at h; simp only; rw [e1']; omega
    · rename_i h; simp [hd0] at h; simp only; rw [Int.mul_neg, e1']; omega
  · have e2' : ((gcdAll [n, d] : Nat) : Int) * ((d.natAbs / gcdAll [n, d] : Nat) : Int) = (d.natAbs : Int) := by rw [← Int.natCast_mul, e2]
    rw [hdef]
    split <;> (simp only; rw [e2']; omega)
theorem ratioCmp_of {a b c d : Int} (ha : -1000000000000000000 ≤ a ∧ a ≤ 1000000000000000000) (hb : 1 ≤ b ∧ b ≤ 1000000000000000) (hc : -1000000000000000000 ≤ c ∧ c ≤ 1000000000000000000) (hd : 1 ≤ d ∧ d ≤ 1000000000000000) :
    ratioCmp (ratioOf a b) (ratioOf c d) = cmpF a b c d := by
  obtain ⟨h1, k, hk, e1, e2⟩ := ratioOf_scale ha hb
  obtain ⟨h2, l, hl, e3, e4⟩ := ratioOf_scale hc hd
  unfold ratioCmp
  rw [if_pos ⟨h1, h2⟩]
  generalize ratioOf a b = r at *
  generalize ratioOf c d = s at *
  rw [e1, e2, e3, e4, cmpF_scale hk hl]
theorem ratioOf_in {n d : Int} (hn : -1000000000000000000 ≤ n ∧ n ≤ 1000000000000000000) (hd : 1 ≤ d ∧ d ≤ 1000000000000000) : (ratioOf n d).In := by
  have := ratioOk_bd (ratioOf_scale hn hd).1
  exact ⟨⟨by omega, by omega⟩, ⟨by omega, by omega⟩⟩
theorem ratioOf_zero {d : Int} (hd : 1 ≤ d ∧ d ≤ 1000000000000000) : ratioOf 0 d = ⟨0, 1⟩ := by
  obtain ⟨h, k, hk, e1, _⟩ := ratioOf_scale (n := 0) ⟨by omega, by omega⟩ hd
  obtain ⟨⟨q1, q2⟩, _, q3⟩ := ratioOk_iff.1 h
  generalize ratioOf 0 d = r at *
  obtain ⟨n, m⟩ := r
  simp only at *
  have hn : n = 0 := by
    rcases Int.mul_eq_zero.1 e1.symm with h | h
    · omega
    · exact h
  subst hn
  rw [Int.natAbs_zero, Nat.gcd_zero_left] at q3
  have : m = 1 := by omega
  subst this
  rfl
theorem ratioMin_in {r s : Ratio} (hr : r.In) (hs : s.In) : (ratioMin r s).In := by
  unfold ratioMin; split
  · split <;> assumption
  · exact ⟨⟨by decide, by decide⟩, ⟨by decide, by decide⟩⟩
theorem ratioMax_in {r s : Ratio} (hr : r.In) (hs : s.In) : (ratioMax r s).In := by
  unfold ratioMax; split
  · split <;> assumption
  · exact ⟨⟨by decide, by decide⟩, ⟨by decide, by decide⟩⟩
theorem ratioMin_ok {r s : Ratio} (hr : ratioOk r = true) (hs : ratioOk s = true) : ratioOk (ratioMin r s) = true := by
  unfold ratioMin; rw [if_pos ⟨hr, hs⟩]; split <;> assumption
theorem ratioMax_ok {r s : Ratio} (hr : ratioOk r = true) (hs : ratioOk s = true) : ratioOk (ratioMax r s) = true := by
  unfold ratioMax; rw [if_pos ⟨hr, hs⟩]; split <;> assumption
/-- The greater one of two fractions of one denominator. -/
theorem ratioMax_of {a c e : Int} (ha : -1000000000000000000 ≤ a ∧ a ≤ 1000000000000000000) (hc : -1000000000000000000 ≤ c ∧ c ≤ 1000000000000000000) (he : 1 ≤ e ∧ e ≤ 1000000000000000) :
    ratioMax (ratioOf a e) (ratioOf c e) = ratioOf (max a c) e := by
  unfold ratioMax
  rw [if_pos ⟨(ratioOf_scale ha he).1, (ratioOf_scale hc he).1⟩, ratioCmp_of ha he hc he]
  have h : cmpF a e c e = sgn (a - c) := by
    unfold cmpF
    rw [← sgn_scale (x := a - c) (show 0 < e by omega)]
    congr 1
    rw [Int.mul_sub, Int.mul_comm e a, Int.mul_comm e c]
  rw [h]
  rcases Int.lt_trichotomy a c with h | h | h
  · rw [sgn_of_neg (by omega), if_neg (by omega), Int.max_eq_right (by omega)]
  · subst h; simp [sgn]
  · rw [sgn_of_pos (by omega), if_pos (by omega), Int.max_eq_left (by omega)]
end Go.Proofs.Ytelkcmchokajaaa
