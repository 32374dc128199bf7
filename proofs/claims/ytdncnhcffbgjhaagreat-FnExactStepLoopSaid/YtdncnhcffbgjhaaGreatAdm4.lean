/-
 The inputs that are admitted at all states of a list: of the program.
 Conditions: valid rooms, half planes and states.
-/
import Derived.Test.YtdncnhcffbgjhaaGreatAdm2
namespace Go.Proofs.YtdncnhcffbgjhaaGreat
open Go.RowKit
theorem spanOk_r {s : Span} (h : spanOk s = true) : ratioOk s.low = true ∧ ratioOk s.high = true := by
 simp only [spanOk, Bool.and_eq_true] at h
 exact ⟨h.1.1, h.1.2⟩
theorem admit_spanOk {r : Room} {e : List Half} {s : Spot} {c : Span} (h : admit r e s = some c) : spanOk c = true := by
 unfold admit at h
 split at h
 ·cases h
 ·cases q : admL r s e with
  | none => rw [q] at h; cases h
  | some w =>
   rw [q] at h
   simp only [Option.bind_some] at h
   split at h
   ·cases h; assumption
   ·cases h
theorem span_In {s : Span} (h : spanOk s = true) : s.In := ⟨ratio_In (spanOk_r h).1, ratio_In (spanOk_r h).2⟩
end Go.Proofs.YtdncnhcffbgjhaaGreat
