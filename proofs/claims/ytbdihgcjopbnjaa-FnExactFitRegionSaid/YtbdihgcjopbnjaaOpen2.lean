/-
  How the arguments of the laws read.
  Conditions: the slices hold at most 2^20 elements.
-/
import Derived.Test.YtbdihgcjopbnjaaOpen
import Derived.Test.YtbdihgcjopbnjaaStr
namespace Go.Proofs.Ytbdihgcjopbnjaa
open Go.RowKit Go.ChangeShapes Go.WideShapes Go.ChangeAt Go.Deep

set_option maxRecDepth 100000 in
theorem openRatio {H : Type} {enc : TypeId × Value → H} {W : World} {base b0 : Nat} {spare : Nat → Bool} {held : Bool} {r : Reach} {v : Value} {d : DataW H} {p : List MemPlace}
    (hv : Value.okWide Try.prog W r b0 190 v) (h : DataW.Trod enc Try.prog W base spare held 190 v d p) : ∃ x : Ratio, x.In ∧ v = ratioV x := by
  obtain ⟨ns, hl, hin, rfl⟩ := open_agg_ints Try.underlying190 (by kernel_rfl) (by kernel_rfl) (by kernel_rfl) hv h
  refine ⟨mkRatio ns, mkRatio_In hl hin, ?_⟩
  match ns, hl with
  | [a, b], _ => rfl
set_option maxRecDepth 100000 in
theorem openRatioS {H : Type} {enc : TypeId × Value → H} {W : World} {base : Nat} {spare : Nat → Bool} {held : Bool} {fuel : Nat} {cs : List Value} {x : DataW H × List MemPlace}
    (h : DataW.trod enc Try.prog W base spare held fuel 36 cs = some x) :
    ∃ A cap xs, cs = [.slice A (List.length xs) cap] ∧ xs.length ≤ 9223372036854775807 ∧ (∀ x ∈ xs, Ratio.In x) ∧ Sl 2 ratioC W A xs := by
  obtain ⟨A, n, cap, hcs, hn, rows, hl, hr, hs⟩ := open_slice_rows (k := 2) Try.underlying36 (by kernel_rfl)
    (fun n cs' x' h' => open_ints_cells Try.underlying190 (by kernel_rfl) (by kernel_rfl) (by kernel_rfl) h') (by omega) h
  refine ⟨A, cap, rows.map mkRatio, ?_, by simp; omega, ?_, hs.map mkRatio fun x hx => mkRatio_C (hr x hx).1⟩
  · simp [hcs, hl]
  · intro x hx
    simp only [List.mem_map] at hx
    obtain ⟨r, hr', rfl⟩ := hx
    exact mkRatio_In (hr r hr').1 (hr r hr').2
set_option maxRecDepth 100000 in
theorem openSpot {H : Type} {enc : TypeId × Value → H} {W : World} {base b0 : Nat} {spare : Nat → Bool} {held : Bool} {r : Reach} {v : Value} {d : DataW H} {p : List MemPlace}
    (hv : Value.okWide Try.prog W r b0 55 v) (h : DataW.Trod enc Try.prog W base spare held 55 v d p) : ∃ x : Spot, x.In ∧ v = spotV x := by
  obtain ⟨ns, hl, hin, rfl⟩ := open_agg_ints Try.underlying55 (by kernel_rfl) (by kernel_rfl) (by kernel_rfl) hv h
  refine ⟨mkSpot ns, mkSpot_In hl hin, ?_⟩
  match ns, hl with
  | [a, b, c], _ => rfl
set_option maxRecDepth 100000 in
theorem openSpotS {H : Type} {enc : TypeId × Value → H} {W : World} {base : Nat} {spare : Nat → Bool} {held : Bool} {fuel : Nat} {cs : List Value} {x : DataW H × List MemPlace}
    (h : DataW.trod enc Try.prog W base spare held fuel 35 cs = some x) :
    ∃ A cap xs, cs = [.slice A (List.length xs) cap] ∧ xs.length ≤ 9223372036854775807 ∧ (∀ x ∈ xs, Spot.In x) ∧ Sl 3 spotC W A xs := by
  obtain ⟨A, n, cap, hcs, hn, rows, hl, hr, hs⟩ := open_slice_rows (k := 3) Try.underlying35 (by kernel_rfl)
    (fun n cs' x' h' => open_ints_cells Try.underlying55 (by kernel_rfl) (by kernel_rfl) (by kernel_rfl) h') (by omega) h
  refine ⟨A, cap, rows.map mkSpot, ?_, by simp; omega, ?_, hs.map mkSpot fun x hx => mkSpot_C (hr x hx).1⟩
  · simp [hcs, hl]
  · intro x hx
    simp only [List.mem_map] at hx
    obtain ⟨r, hr', rfl⟩ := hx
    exact mkSpot_In (hr r hr').1 (hr r hr').2
set_option maxRecDepth 100000 in
theorem openHalf {H : Type} {enc : TypeId × Value → H} {W : World} {base b0 : Nat} {spare : Nat → Bool} {held : Bool} {r : Reach} {v : Value} {d : DataW H} {p : List MemPlace}
    (hv : Value.okWide Try.prog W r b0 245 v) (h : DataW.Trod enc Try.prog W base spare held 245 v d p) : ∃ x : Half, x.In ∧ v = halfV x := by
  obtain ⟨ns, hl, hin, rfl⟩ := open_agg_ints Try.underlying245 (by kernel_rfl) (by kernel_rfl) (by kernel_rfl) hv h
  refine ⟨mkHalf ns, mkHalf_In hl hin, ?_⟩
  match ns, hl with
  | [a, b, c], _ => rfl
set_option maxRecDepth 100000 in
theorem openHalfS {H : Type} {enc : TypeId × Value → H} {W : World} {base : Nat} {spare : Nat → Bool} {held : Bool} {fuel : Nat} {cs : List Value} {x : DataW H × List MemPlace}
    (h : DataW.trod enc Try.prog W base spare held fuel 108 cs = some x) :
    ∃ A cap xs, cs = [.slice A (List.length xs) cap] ∧ xs.length ≤ 9223372036854775807 ∧ (∀ x ∈ xs, Half.In x) ∧ Sl 3 halfC W A xs := by
  obtain ⟨A, n, cap, hcs, hn, rows, hl, hr, hs⟩ := open_slice_rows (k := 3) Try.underlying108 (by kernel_rfl)
    (fun n cs' x' h' => open_ints_cells Try.underlying245 (by kernel_rfl) (by kernel_rfl) (by kernel_rfl) h') (by omega) h
  refine ⟨A, cap, rows.map mkHalf, ?_, by simp; omega, ?_, hs.map mkHalf fun x hx => mkHalf_C (hr x hx).1⟩
  · simp [hcs, hl]
  · intro x hx
    simp only [List.mem_map] at hx
    obtain ⟨r, hr', rfl⟩ := hx
    exact mkHalf_In (hr r hr').1 (hr r hr').2
set_option maxRecDepth 100000 in
theorem openPiece {H : Type} {enc : TypeId × Value → H} {W : World} {base b0 : Nat} {spare : Nat → Bool} {held : Bool} {r : Reach} {v : Value} {d : DataW H} {p : List MemPlace}
    (hv : Value.okWide Try.prog W r b0 196 v) (h : DataW.Trod enc Try.prog W base spare held 196 v d p) : ∃ x : Piece, x.In ∧ v = pieceV x := by
  obtain ⟨ns, hl, hin, rfl⟩ := open_agg_ints Try.underlying196 (by kernel_rfl) (by kernel_rfl) (by kernel_rfl) hv h
  refine ⟨mkPiece ns, mkPiece_In hl hin, ?_⟩
  match ns, hl with
  | [a, b, c, d], _ => rfl
set_option maxRecDepth 100000 in
theorem openPieceS {H : Type} {enc : TypeId × Value → H} {W : World} {base : Nat} {spare : Nat → Bool} {held : Bool} {fuel : Nat} {cs : List Value} {x : DataW H × List MemPlace}
    (h : DataW.trod enc Try.prog W base spare held fuel 51 cs = some x) :
    ∃ A cap xs, cs = [.slice A (List.length xs) cap] ∧ xs.length ≤ 9223372036854775807 ∧ (∀ x ∈ xs, Piece.In x) ∧ Sl 4 pieceC W A xs := by
  obtain ⟨A, n, cap, hcs, hn, rows, hl, hr, hs⟩ := open_slice_rows (k := 4) Try.underlying51 (by kernel_rfl)
    (fun n cs' x' h' => open_ints_cells Try.underlying196 (by kernel_rfl) (by kernel_rfl) (by kernel_rfl) h') (by omega) h
  refine ⟨A, cap, rows.map mkPiece, ?_, by simp; omega, ?_, hs.map mkPiece fun x hx => mkPiece_C (hr x hx).1⟩
  · simp [hcs, hl]
  · intro x hx
    simp only [List.mem_map] at hx
    obtain ⟨r, hr', rfl⟩ := hx
    exact mkPiece_In (hr r hr').1 (hr r hr').2
set_option maxRecDepth 100000 in
theorem openMode {H : Type} {enc : TypeId × Value → H} {W : World} {base b0 : Nat} {spare : Nat → Bool} {held : Bool} {r : Reach} {v : Value} {d : DataW H} {p : List MemPlace}
    (hv : Value.okWide Try.prog W r b0 127 v) (h : DataW.Trod enc Try.prog W base spare held 127 v d p) : ∃ x : Mode, x.In ∧ v = modeV x := by
  obtain ⟨ns, hl, hin, rfl⟩ := open_agg_ints Try.underlying127 (by kernel_rfl) (by kernel_rfl) (by kernel_rfl) hv h
  refine ⟨mkMode ns, mkMode_In hl hin, ?_⟩
  match ns, hl with
  | [a, b], _ => rfl
set_option maxRecDepth 100000 in
theorem openModeS {H : Type} {enc : TypeId × Value → H} {W : World} {base : Nat} {spare : Nat → Bool} {held : Bool} {fuel : Nat} {cs : List Value} {x : DataW H × List MemPlace}
    (h : DataW.trod enc Try.prog W base spare held fuel 113 cs = some x) :
    ∃ A cap xs, cs = [.slice A (List.length xs) cap] ∧ xs.length ≤ 9223372036854775807 ∧ (∀ x ∈ xs, Mode.In x) ∧ Sl 2 modeC W A xs := by
  obtain ⟨A, n, cap, hcs, hn, rows, hl, hr, hs⟩ := open_slice_rows (k := 2) Try.underlying113 (by kernel_rfl)
    (fun n cs' x' h' => open_ints_cells Try.underlying127 (by kernel_rfl) (by kernel_rfl) (by kernel_rfl) h') (by omega) h
  refine ⟨A, cap, rows.map mkMode, ?_, by simp; omega, ?_, hs.map mkMode fun x hx => mkMode_C (hr x hx).1⟩
  · simp [hcs, hl]
  · intro x hx
    simp only [List.mem_map] at hx
    obtain ⟨r, hr', rfl⟩ := hx
    exact mkMode_In (hr r hr').1 (hr r hr').2
set_option maxRecDepth 100000 in
theorem openRecord {H : Type} {enc : TypeId × Value → H} {W : World} {base b0 : Nat} {spare : Nat → Bool} {held : Bool} {r : Reach} {v : Value} {d : DataW H} {p : List MemPlace}
    (hv : Value.okWide Try.prog W r b0 99 v) (h : DataW.Trod enc Try.prog W base spare held 99 v d p) : ∃ x : Record, x.In ∧ v = recordV x := by
  obtain ⟨ns, hl, hin, rfl⟩ := open_agg_ints Try.underlying99 (by kernel_rfl) (by kernel_rfl) (by kernel_rfl) hv h
  refine ⟨mkRecord ns, mkRecord_In hl hin, ?_⟩
  match ns, hl with
  | [a, b, c], _ => rfl
set_option maxRecDepth 100000 in
theorem openRecordS {H : Type} {enc : TypeId × Value → H} {W : World} {base : Nat} {spare : Nat → Bool} {held : Bool} {fuel : Nat} {cs : List Value} {x : DataW H × List MemPlace}
    (h : DataW.trod enc Try.prog W base spare held fuel 98 cs = some x) :
    ∃ A cap xs, cs = [.slice A (List.length xs) cap] ∧ xs.length ≤ 9223372036854775807 ∧ (∀ x ∈ xs, Record.In x) ∧ Sl 3 recordC W A xs := by
  obtain ⟨A, n, cap, hcs, hn, rows, hl, hr, hs⟩ := open_slice_rows (k := 3) Try.underlying98 (by kernel_rfl)
    (fun n cs' x' h' => open_ints_cells Try.underlying99 (by kernel_rfl) (by kernel_rfl) (by kernel_rfl) h') (by omega) h
  refine ⟨A, cap, rows.map mkRecord, ?_, by simp; omega, ?_, hs.map mkRecord fun x hx => mkRecord_C (hr x hx).1⟩
  · simp [hcs, hl]
  · intro x hx
    simp only [List.mem_map] at hx
    obtain ⟨r, hr', rfl⟩ := hx
    exact mkRecord_In (hr r hr').1 (hr r hr').2
end Go.Proofs.Ytbdihgcjopbnjaa
