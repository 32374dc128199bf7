/-
 Short steps for the invariants of regions that draw their order.
 Conditions: none.
-/
import Derived.Test.YtdncnhcffbgjhaaGreatInv
namespace Go.Proofs.YtdncnhcffbgjhaaGreat
open Go.RowKit
theorem pgK {L : Nat → Bool} {a : Act} {i j k s : Nat} {v u : Value} (h : L j = true → a.tmps[s]?.getD undef = v) (ne : k ≠ s) (hj : decide (j = i) = false) : (decide (j = i) || L j) = true → (a.put (some k) u).tmps[s]?.getD undef = v :=
 fun hl => (put_get_ne ne u).trans (h (by rw [hj] at hl; exact hl))
theorem kpK {L : Nat → Bool} {i j : Nat} {p : Prop} (h : L j = true → p) (hj : decide (j = i) = false) : (decide (j = i) || L j) = true → p :=
 fun hl => h (by rw [hj] at hl; exact hl)
theorem knK {L : Nat → Bool} {i j : Nat} {p : Prop} (h : L j = false → p) (hj : decide (j = i) = false) : (decide (j = i) || L j) = false → p :=
 fun hl => h (by rw [hj] at hl; exact hl)
theorem prK {L : Nat → Bool} {i a b : Nat} (h : L a = true → L b = true) (ha : decide (a = i) = false) : (decide (a = i) || L a) = true → (decide (b = i) || L b) = true :=
 fun hl => by rw [ha] at hl; rw [h hl, Bool.or_true]
theorem wanted_of {o oj : Oper} {ops : Array Oper} {tmps : Array Value} {j s : Nat} {b : Bool} (hg : o.guard = some (j, b)) (hj : ops[j]? = some oj) (hd : oj.dst = some s) (hv : tmps[s]?.getD undef = .bool b) : Region.wanted o (yielded ops tmps) = true := by
 unfold Region.wanted
 rw [hg]
 cases h : tmps[s]? with
 | none => rw [h] at hv; cases hv
 | some v =>
  rw [h] at hv
  simp only [Option.getD_some] at hv
  subst hv
  simp [yielded, hj, hd, h]
theorem unwanted_of {o oj : Oper} {ops : Array Oper} {tmps : Array Value} {j s : Nat} {b c : Bool} (hg : o.guard = some (j, b)) (hj : ops[j]? = some oj) (hd : oj.dst = some s) (hv : tmps[s]?.getD undef = .bool c) (hne : c ≠ b) : ¬ Region.wanted o (yielded ops tmps) = true := by
 unfold Region.wanted
 rw [hg]
 cases h : tmps[s]? with
 | none => rw [h] at hv; cases hv
 | some v =>
  rw [h] at hv
  simp only [Option.getD_some] at hv
  subst hv
  simp [yielded, hj, hd, h, hne]
end Go.Proofs.YtdncnhcffbgjhaaGreat
