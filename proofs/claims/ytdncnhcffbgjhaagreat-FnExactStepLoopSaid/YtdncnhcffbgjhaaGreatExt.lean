/-
 Regions that draw their order, read, and call what makes memory of its own alone: one walk, in the text's order.
 Conditions: none.
-/
import Derived.Test.YtdncnhcffbgjhaaGreatGrA
import Derived.Deep.QuietTactic
import Derived.BigQuiet
namespace Go.Proofs.YtdncnhcffbgjhaaGreat
open Go.RowKit
open Classical in
/-- The world t, where it is w with changes above; else w. -/
noncomputable def Wx (w t : World) : World := if Below w.heap.size w t then t else w
theorem Wx.below (w t : World) : Below w.heap.size w (Wx w t) := by
 unfold Wx; split
 ·assumption
 ·exact Below.refl _ _
theorem Wx.of {w t : World} (h : Below w.heap.size w t) : t = Wx w t := by unfold Wx; rw [if_pos h]
theorem Wx.cell (w : World) {b : Nat} (h : b < w.heap.size) : ∀ (t : World) (o : Nat), (Wx w t).cell? ⟨b, o, none⟩ = w.cell? ⟨b, o, none⟩ :=
 fun t o => (Wx.below w t).cell (p := ⟨b, o, none⟩) h
theorem Wx.out {w w' : World} (h : ∃ t, w' = Wx w t) : Below w.heap.size w w' := by
 obtain ⟨t, rfl⟩ := h; exact Wx.below _ _
theorem quiet_x {P : Program} {f : FuncId} {args : Array Value} {w t : World} {v : Value}
  (h : Calls P f args (Wx w t) fun e w' => e = .returned v ∧ Below (Wx w t).heap.size (Wx w t) w') : Calls P f args (Wx w t) fun e w'' => e = .returned v ∧ ∃ t', w'' = Wx w t' :=
 h.mono fun _ w' ⟨he, hb⟩ => ⟨he, w', Wx.of (below_tr (Wx.below w t) hb)⟩
theorem quiet_xs {P : Program} {f : FuncId} {args : Array Value} {w t : World} {v : Value}
  (h : Calls P f args (Wx w t) fun e w' => e = .returned v ∧ Wx w t = w') : Calls P f args (Wx w t) fun e w'' => e = .returned v ∧ ∃ t', w'' = Wx w t' :=
 h.mono fun _ _ ⟨he, hb⟩ => ⟨he, t, hb.symm⟩
theorem wp_region_x {P : Program} {id : Nat} {Q : Exit → Act → World → Prop} {a : Act} {w : World} {l : List Oper} (hm : P.follows .mixedOrders = true) (hB : Region.lexB .any l.toArray = true)
  (h : wpQuiet P l.toArray (fun w' => ∃ t, w' = Wx w t) (fun a' => ∀ w', (∃ t, w' = Wx w t) → Q .normal a' w') l a) : (Code.region id l.toArray true).wp P Q a w :=
 wp_region_quiet (C := fun w' => ∃ t, w' = Wx w t) hm hB ⟨_, Wx.of ((Below.refl w.heap.size w).drew)⟩ (by simpa using h)
end Go.Proofs.YtdncnhcffbgjhaaGreat
