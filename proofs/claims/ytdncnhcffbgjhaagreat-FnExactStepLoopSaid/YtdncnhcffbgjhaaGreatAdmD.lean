/-
 The inputs that are admitted under a drift: of the program and of the reference.
 Conditions: the slices hold at most 2^20 elements.
-/
import Derived.Test.YtdncnhcffbgjhaaGreatV1
import Derived.Test.YtdncnhcffbgjhaaGreatAdm4
namespace Go.Proofs.YtdncnhcffbgjhaaGreat
open Go.RowKit
theorem robOk_room {r : Room} {p : List Half} (h : robOk r p = true) : roomOk r = true := by
 simp only [robOk, rpOk, Bool.and_eq_true] at h
 exact h.1.2.1.1
theorem isNone_f {α : Type} {x : Option α} (h : x.isSome = false) : x = none := by cases x with | none => rfl | some _ => cases h
theorem span0_In : span0.In := by
 have h : In64 0 := ⟨by decide, by decide⟩
 exact ⟨⟨h, h⟩, ⟨h, h⟩⟩
theorem optIn {x : Option Span} (h : ∀ v, x = some v → spanOk v = true) : (x.getD span0).In := by
 cases x with
 | none => exact span0_In
 | some v => exact span_In (h v rfl)
theorem admAt_ok {r : Room} {p : List Half} {s : Spot} {v : Span} (h : admAt r p s = some v) : spanOk v = true := by
 unfold admAt at h
 split at h
 ·exact admit_spanOk h
 ·cases h
end Go.Proofs.YtdncnhcffbgjhaaGreat
