/-
  How the arguments of the laws read.
  Conditions: the slices hold at most 2^20 elements.
-/
import Derived.Test.YtbdmmfboiilamaaOpen
import Derived.Test.YtbdmmfboiilamaaStr
namespace Go.Proofs.Ytbdmmfboiilamaa
open Go.RowKit Go.ChangeShapes Go.WideShapes Go.ChangeAt Go.Deep

theorem openSpot {H : Type} {enc : TypeId × Value → H} {W : World} {base b0 : Nat} {spare : Nat → Bool} {held : Bool} {r : Reach} {v : Value} {d : DataW H} {p : List MemPlace}
    (hv : Value.okWide Try.prog W r b0 42 v) (h : DataW.Trod enc Try.prog W base spare held 42 v d p) : ∃ x : Spot, x.In ∧ v = spotV x := by
  obtain ⟨ns, hl, hin, rfl⟩ := open_agg_ints Try.underlying42 (by kernel_rfl) (by kernel_rfl) (by kernel_rfl) hv h
  refine ⟨mkSpot ns, mkSpot_In hl hin, ?_⟩
  match ns, hl with
  | [a, b, c], _ => rfl
theorem openPiece {H : Type} {enc : TypeId × Value → H} {W : World} {base b0 : Nat} {spare : Nat → Bool} {held : Bool} {r : Reach} {v : Value} {d : DataW H} {p : List MemPlace}
    (hv : Value.okWide Try.prog W r b0 40 v) (h : DataW.Trod enc Try.prog W base spare held 40 v d p) : ∃ x : Piece, x.In ∧ v = pieceV x := by
  obtain ⟨ns, hl, hin, rfl⟩ := open_agg_ints Try.underlying40 (by kernel_rfl) (by kernel_rfl) (by kernel_rfl) hv h
  refine ⟨mkPiece ns, mkPiece_In hl hin, ?_⟩
  match ns, hl with
  | [a, b, c, d], _ => rfl
theorem openRecord {H : Type} {enc : TypeId × Value → H} {W : World} {base b0 : Nat} {spare : Nat → Bool} {held : Bool} {r : Reach} {v : Value} {d : DataW H} {p : List MemPlace}
    (hv : Value.okWide Try.prog W r b0 54 v) (h : DataW.Trod enc Try.prog W base spare held 54 v d p) : ∃ x : Record, x.In ∧ v = recordV x := by
  obtain ⟨ns, hl, hin, rfl⟩ := open_agg_ints Try.underlying54 (by kernel_rfl) (by kernel_rfl) (by kernel_rfl) hv h
  refine ⟨mkRecord ns, mkRecord_In hl hin, ?_⟩
  match ns, hl with
  | [a, b, c], _ => rfl
theorem openRecordS {H : Type} {enc : TypeId × Value → H} {W : World} {base : Nat} {spare : Nat → Bool} {held : Bool} {fuel : Nat} {cs : List Value} {x : DataW H × List MemPlace}
    (h : DataW.trod enc Try.prog W base spare held fuel 22 cs = some x) :
    ∃ A cap xs, cs = [.slice A (List.length xs) cap] ∧ xs.length ≤ 9223372036854775807 ∧ (∀ x ∈ xs, Record.In x) ∧ Sl 3 recordC W A xs := by
  obtain ⟨A, n, cap, hcs, hn, rows, hl, hr, hs⟩ := open_slice_rows (k := 3) Try.underlying22 (by kernel_rfl)
    (fun n cs' x' h' => open_ints_cells Try.underlying54 (by kernel_rfl) (by kernel_rfl) (by kernel_rfl) h') (by omega) h
  refine ⟨A, cap, rows.map mkRecord, ?_, by simp; omega, ?_, hs.map mkRecord fun x hx => mkRecord_C (hr x hx).1⟩
  · simp [hcs, hl]
  · intro x hx
    simp only [List.mem_map] at hx
    obtain ⟨r, hr', rfl⟩ := hx
    exact mkRecord_In (hr r hr').1 (hr r hr').2
end Go.Proofs.Ytbdmmfboiilamaa
