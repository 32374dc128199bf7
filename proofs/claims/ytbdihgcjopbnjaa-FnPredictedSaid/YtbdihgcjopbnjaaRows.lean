/-
  No cell of these rows narrows 'for every input' (looked for: loops, veiled, ifaces, maps, wideKeys, modest, calm, conditions, laid).
  DERIVED. THE GIVEN ROWS OF THIS SEAT. 10 by the template 'for every input the law returns true; each argument reads behind the call as it read before'; 0 by the template 'total and deterministic' (their statements: YtbdihgcjopbnjaaTotals.lean).
  GIVEN WITH THE SEED: the statements are not yours to turn. If you find one false, say at which input.
  Laid BY PROGRAM, IN A SANDBOX (cutbox-rows.mjs): the forced cells as the released guide's own fill.sh prints them over the translation f2323ad6cb83e36c… (all of the seat's roots in one cut). By AI agents, Wed Nov 11 2026. No macro, syntax, notation, axiom, sorry.
-/
import Derived.Test.YtbdihgcjopbnjaaChecked
import GoSem.Claim
import GoSem.ClaimJoined
import GoSem.ClaimMapViews
import Derived.JoinedTies
import Derived.KernelRfl
namespace Go.Proofs.Ytbdihgcjopbnjaa
/- THE CELL 'sum', in the pinned program and in every row, IS THE sha256 OF THE DUMP (.gsa) THAT YtbdihgcjopbnjaaProg.lean LOADS. Nothing in Lean hashes anything: it is a label: what it is worth is what the hold of that sum in a sandbox is worth. -/
noncomputable def Try.pinned : Pinned := { name := "ytbdihgcjopbnjaa", sum := "f2323ad6cb83e36c61ea4e207266dc93fdf6ff21f2f29d1122bbaba597a9b4e3", checked := Try.checked }
namespace Rows
def none {H : Type} : Left H := { results := [], args := [] }

/-- 'laws.FnExactCellCorners': WHATEVER THE INPUT: true; the input reads as it did. -/
def fnExactCellCornersSpec : ChangeSpec := { name := "fnExactCellCorners", fn := fun _ => fun
  | [d1, d2, d3] => { results := [.lit (.bool true)], args := [d1, d2, d3] }
  | _ => none }
def fnExactCellCornersRow : OpenClaim := { program := "ytbdihgcjopbnjaa", sum := "f2323ad6cb83e36c61ea4e207266dc93fdf6ff21f2f29d1122bbaba597a9b4e3", func := "loop.example/g00832/laws.FnExactCellCorners", spec := "fnExactCellCorners", apart := false }
def FnExactCellCornersSaid : Prop := fnExactCellCornersRow.holds Try.pinned (OpenSpec.ofChange fnExactCellCornersSpec)

/-- ITS FALSE NEIGHBOUR: 'it returns false'. Refute it at one input. -/
def fnExactCellCornersWrong : ChangeSpec := { name := "fnExactCellCorners", fn := fun _ => fun
  | [d1, d2, d3] => { results := [.lit (.bool false)], args := [d1, d2, d3] }
  | _ => none }
def FnExactCellCornersWrongFalsely : Prop := fnExactCellCornersRow.holds Try.pinned (OpenSpec.ofChange fnExactCellCornersWrong)

/-- 'laws.FnExactUsedInputs': WHATEVER THE INPUT: true; the input reads as it did. -/
def fnExactUsedInputsSpec : ChangeSpec := { name := "fnExactUsedInputs", fn := fun _ => fun
  | [d] => { results := [.lit (.bool true)], args := [d] }
  | _ => none }
def fnExactUsedInputsRow : OpenClaim := { program := "ytbdihgcjopbnjaa", sum := "f2323ad6cb83e36c61ea4e207266dc93fdf6ff21f2f29d1122bbaba597a9b4e3", func := "loop.example/g00832/laws.FnExactUsedInputs", spec := "fnExactUsedInputs", apart := false }
def FnExactUsedInputsSaid : Prop := fnExactUsedInputsRow.holds Try.pinned (OpenSpec.ofChange fnExactUsedInputsSpec)

/-- ITS FALSE NEIGHBOUR: 'it returns false'. Refute it at one input. -/
def fnExactUsedInputsWrong : ChangeSpec := { name := "fnExactUsedInputs", fn := fun _ => fun
  | [d] => { results := [.lit (.bool false)], args := [d] }
  | _ => none }
def FnExactUsedInputsWrongFalsely : Prop := fnExactUsedInputsRow.holds Try.pinned (OpenSpec.ofChange fnExactUsedInputsWrong)

/-- 'laws.FnExactLawAt': WHATEVER THE INPUT: true; the input reads as it did. -/
def fnExactLawAtSpec : ChangeSpec := { name := "fnExactLawAt", fn := fun _ => fun
  | [d1, d2] => { results := [.lit (.bool true)], args := [d1, d2] }
  | _ => none }
def fnExactLawAtRow : OpenClaim := { program := "ytbdihgcjopbnjaa", sum := "f2323ad6cb83e36c61ea4e207266dc93fdf6ff21f2f29d1122bbaba597a9b4e3", func := "loop.example/g00832/laws.FnExactLawAt", spec := "fnExactLawAt", apart := false }
def FnExactLawAtSaid : Prop := fnExactLawAtRow.holds Try.pinned (OpenSpec.ofChange fnExactLawAtSpec)

/-- ITS FALSE NEIGHBOUR: 'it returns false'. Refute it at one input. -/
def fnExactLawAtWrong : ChangeSpec := { name := "fnExactLawAt", fn := fun _ => fun
  | [d1, d2] => { results := [.lit (.bool false)], args := [d1, d2] }
  | _ => none }
def FnExactLawAtWrongFalsely : Prop := fnExactLawAtRow.holds Try.pinned (OpenSpec.ofChange fnExactLawAtWrong)

/-- 'laws.FnFits': WHATEVER THE INPUT: true; the input reads as it did. -/
def fnFitsSpec : ChangeSpec := { name := "fnFits", fn := fun _ => fun
  | [d] => { results := [.lit (.bool true)], args := [d] }
  | _ => none }
def fnFitsRow : OpenClaim := { program := "ytbdihgcjopbnjaa", sum := "f2323ad6cb83e36c61ea4e207266dc93fdf6ff21f2f29d1122bbaba597a9b4e3", func := "loop.example/g00832/laws.FnFits", spec := "fnFits", inPlace := ["slices.overlaps[loop.example/g00832/impl.Half]"], apart := false }
def FnFitsSaid : Prop := fnFitsRow.holds Try.pinned (OpenSpec.ofChange fnFitsSpec)

/-- ITS FALSE NEIGHBOUR: 'it returns false'. Refute it at one input. -/
def fnFitsWrong : ChangeSpec := { name := "fnFits", fn := fun _ => fun
  | [d] => { results := [.lit (.bool false)], args := [d] }
  | _ => none }
def FnFitsWrongFalsely : Prop := fnFitsRow.holds Try.pinned (OpenSpec.ofChange fnFitsWrong)

/-- 'laws.FnPredicted': WHATEVER THE INPUT: true; the input reads as it did. -/
def fnPredictedSpec : ChangeSpec := { name := "fnPredicted", fn := fun _ => fun
  | [d] => { results := [.lit (.bool true)], args := [d] }
  | _ => none }
def fnPredictedRow : OpenClaim := { program := "ytbdihgcjopbnjaa", sum := "f2323ad6cb83e36c61ea4e207266dc93fdf6ff21f2f29d1122bbaba597a9b4e3", func := "loop.example/g00832/laws.FnPredicted", spec := "fnPredicted", inPlace := ["slices.overlaps[loop.example/g00832/impl.Half]"], unfollowed := true, recurses := true, apart := false }
def FnPredictedSaid : Prop := fnPredictedRow.holds Try.pinned (OpenSpec.ofChange fnPredictedSpec)

/-- ITS FALSE NEIGHBOUR: 'it returns false'. Refute it at one input. -/
def fnPredictedWrong : ChangeSpec := { name := "fnPredicted", fn := fun _ => fun
  | [d] => { results := [.lit (.bool false)], args := [d] }
  | _ => none }
def FnPredictedWrongFalsely : Prop := fnPredictedRow.holds Try.pinned (OpenSpec.ofChange fnPredictedWrong)

/-- 'laws.FnExactNewRecord': WHATEVER THE INPUT: true; the input reads as it did. -/
def fnExactNewRecordSpec : ChangeSpec := { name := "fnExactNewRecord", fn := fun _ => fun
  | [d1, d2, d3] => { results := [.lit (.bool true)], args := [d1, d2, d3] }
  | _ => none }
def fnExactNewRecordRow : OpenClaim := { program := "ytbdihgcjopbnjaa", sum := "f2323ad6cb83e36c61ea4e207266dc93fdf6ff21f2f29d1122bbaba597a9b4e3", func := "loop.example/g00832/laws.FnExactNewRecord", spec := "fnExactNewRecord", inPlace := ["slices.overlaps[loop.example/g00832/impl.Half]"], apart := false }
def FnExactNewRecordSaid : Prop := fnExactNewRecordRow.holds Try.pinned (OpenSpec.ofChange fnExactNewRecordSpec)

/-- ITS FALSE NEIGHBOUR: 'it returns false'. Refute it at one input. -/
def fnExactNewRecordWrong : ChangeSpec := { name := "fnExactNewRecord", fn := fun _ => fun
  | [d1, d2, d3] => { results := [.lit (.bool false)], args := [d1, d2, d3] }
  | _ => none }
def FnExactNewRecordWrongFalsely : Prop := fnExactNewRecordRow.holds Try.pinned (OpenSpec.ofChange fnExactNewRecordWrong)

/-- 'laws.FnExactFitRegion': WHATEVER THE INPUT: true; the input reads as it did. -/
def fnExactFitRegionSpec : ChangeSpec := { name := "fnExactFitRegion", fn := fun _ => fun
  | [d1, d2] => { results := [.lit (.bool true)], args := [d1, d2] }
  | _ => none }
def fnExactFitRegionRow : OpenClaim := { program := "ytbdihgcjopbnjaa", sum := "f2323ad6cb83e36c61ea4e207266dc93fdf6ff21f2f29d1122bbaba597a9b4e3", func := "loop.example/g00832/laws.FnExactFitRegion", spec := "fnExactFitRegion", inPlace := ["slices.overlaps[loop.example/g00832/impl.Half]"], apart := false }
def FnExactFitRegionSaid : Prop := fnExactFitRegionRow.holds Try.pinned (OpenSpec.ofChange fnExactFitRegionSpec)

/-- ITS FALSE NEIGHBOUR: 'it returns false'. Refute it at one input. -/
def fnExactFitRegionWrong : ChangeSpec := { name := "fnExactFitRegion", fn := fun _ => fun
  | [d1, d2] => { results := [.lit (.bool false)], args := [d1, d2] }
  | _ => none }
def FnExactFitRegionWrongFalsely : Prop := fnExactFitRegionRow.holds Try.pinned (OpenSpec.ofChange fnExactFitRegionWrong)

/-- 'laws.FnExactModesOk': WHATEVER THE INPUT: true; the input reads as it did. -/
def fnExactModesOkSpec : ChangeSpec := { name := "fnExactModesOk", fn := fun _ => fun
  | [d1, d2] => { results := [.lit (.bool true)], args := [d1, d2] }
  | _ => none }
def fnExactModesOkRow : OpenClaim := { program := "ytbdihgcjopbnjaa", sum := "f2323ad6cb83e36c61ea4e207266dc93fdf6ff21f2f29d1122bbaba597a9b4e3", func := "loop.example/g00832/laws.FnExactModesOk", spec := "fnExactModesOk", inPlace := ["slices.overlaps[loop.example/g00832/impl.Half]"], apart := false }
def FnExactModesOkSaid : Prop := fnExactModesOkRow.holds Try.pinned (OpenSpec.ofChange fnExactModesOkSpec)

/-- ITS FALSE NEIGHBOUR: 'it returns false'. Refute it at one input. -/
def fnExactModesOkWrong : ChangeSpec := { name := "fnExactModesOk", fn := fun _ => fun
  | [d1, d2] => { results := [.lit (.bool false)], args := [d1, d2] }
  | _ => none }
def FnExactModesOkWrongFalsely : Prop := fnExactModesOkRow.holds Try.pinned (OpenSpec.ofChange fnExactModesOkWrong)

/-- 'laws.FnExactPredictRange': WHATEVER THE INPUT: true; the input reads as it did. -/
def fnExactPredictRangeSpec : ChangeSpec := { name := "fnExactPredictRange", fn := fun _ => fun
  | [d1, d2, d3, d4] => { results := [.lit (.bool true)], args := [d1, d2, d3, d4] }
  | _ => none }
def fnExactPredictRangeRow : OpenClaim := { program := "ytbdihgcjopbnjaa", sum := "f2323ad6cb83e36c61ea4e207266dc93fdf6ff21f2f29d1122bbaba597a9b4e3", func := "loop.example/g00832/laws.FnExactPredictRange", spec := "fnExactPredictRange", inPlace := ["slices.overlaps[loop.example/g00832/impl.Half]"], unfollowed := true, recurses := true, apart := false }
def FnExactPredictRangeSaid : Prop := fnExactPredictRangeRow.holds Try.pinned (OpenSpec.ofChange fnExactPredictRangeSpec)

/-- ITS FALSE NEIGHBOUR: 'it returns false'. Refute it at one input. -/
def fnExactPredictRangeWrong : ChangeSpec := { name := "fnExactPredictRange", fn := fun _ => fun
  | [d1, d2, d3, d4] => { results := [.lit (.bool false)], args := [d1, d2, d3, d4] }
  | _ => none }
def FnExactPredictRangeWrongFalsely : Prop := fnExactPredictRangeRow.holds Try.pinned (OpenSpec.ofChange fnExactPredictRangeWrong)

/-- 'laws.FnExactModeRoom': WHATEVER THE INPUT: true; the input reads as it did. -/
def fnExactModeRoomSpec : ChangeSpec := { name := "fnExactModeRoom", fn := fun _ => fun
  | [d1, d2] => { results := [.lit (.bool true)], args := [d1, d2] }
  | _ => none }
def fnExactModeRoomRow : OpenClaim := { program := "ytbdihgcjopbnjaa", sum := "f2323ad6cb83e36c61ea4e207266dc93fdf6ff21f2f29d1122bbaba597a9b4e3", func := "loop.example/g00832/laws.FnExactModeRoom", spec := "fnExactModeRoom", inPlace := ["slices.overlaps[loop.example/g00832/impl.Half]"], apart := false }
def FnExactModeRoomSaid : Prop := fnExactModeRoomRow.holds Try.pinned (OpenSpec.ofChange fnExactModeRoomSpec)

/-- ITS FALSE NEIGHBOUR: 'it returns false'. Refute it at one input. -/
def fnExactModeRoomWrong : ChangeSpec := { name := "fnExactModeRoom", fn := fun _ => fun
  | [d1, d2] => { results := [.lit (.bool false)], args := [d1, d2] }
  | _ => none }
def FnExactModeRoomWrongFalsely : Prop := fnExactModeRoomRow.holds Try.pinned (OpenSpec.ofChange fnExactModeRoomWrong)

/- THE SECOND FORM. 'bulk': how many values and letters a reading holds, each counted each time it is reached (what is shared counts as often as it is met; a slice's spare places count too). A statement '..UptoSaid' is the law's where the arguments, and the package variables that the reading takes, are together of bulk at most 1048576: NARROWER than '..Said'. Prove '..Said' where nothing that the law and all that it calls make is longer than what came in: it says more and counts as full. Else prove '..UptoSaid'. A law counts once. -/
mutual
def uptoBulk {H : Type} : DataW H → Nat
  | .lit (.string bytes) => bytes.length + 1
  | .lit _ => 1
  | .nil => 1
  | .ptr d => uptoBulk d + 1
  | .slice elems spare => uptoBulkAll elems + uptoBulkAll spare + 1
  | .agg parts => uptoBulkAll parts + 1
  | .iface _ d => uptoBulk d + 1
  | .map entries => uptoBulkEntries entries + 1
  | .held _ => 1
def uptoBulkAll {H : Type} : List (DataW H) → Nat
  | [] => 0
  | d :: r => uptoBulk d + uptoBulkAll r
def uptoBulkEntries {H : Type} : List (Lit × DataW H) → Nat
  | [] => 0
  | x :: r => uptoBulkEntry x + uptoBulkEntries r
def uptoBulkEntry {H : Type} : Lit × DataW H → Nat
  | (.string bytes, d) => bytes.length + uptoBulk d + 1
  | (_, d) => uptoBulk d + 1
 end
def uptoSmall : (H : Type) → List (DataW H) → Bool := fun _ ds => decide (uptoBulkAll ds ≤ 1048576)
def OpenSpec.upto (s : _root_.Go.ChangeSpec) : _root_.Go.OpenSpec := { _root_.Go.OpenSpec.ofChange s with cond := some uptoSmall }

/-- 'laws.FnExactCellCorners', WHERE WHAT IT READS IS OF BULK AT MOST 1048576: true; the input reads as it did. -/
def fnExactCellCornersUptoRow : OpenClaim := { program := "ytbdihgcjopbnjaa", sum := "f2323ad6cb83e36c61ea4e207266dc93fdf6ff21f2f29d1122bbaba597a9b4e3", func := "loop.example/g00832/laws.FnExactCellCorners", spec := "fnExactCellCorners", apart := false, narrowed := true }
def FnExactCellCornersUptoSaid : Prop := fnExactCellCornersUptoRow.holds Try.pinned (OpenSpec.upto fnExactCellCornersSpec)

/-- 'laws.FnExactUsedInputs', WHERE WHAT IT READS IS OF BULK AT MOST 1048576: true; the input reads as it did. -/
def fnExactUsedInputsUptoRow : OpenClaim := { program := "ytbdihgcjopbnjaa", sum := "f2323ad6cb83e36c61ea4e207266dc93fdf6ff21f2f29d1122bbaba597a9b4e3", func := "loop.example/g00832/laws.FnExactUsedInputs", spec := "fnExactUsedInputs", apart := false, narrowed := true }
def FnExactUsedInputsUptoSaid : Prop := fnExactUsedInputsUptoRow.holds Try.pinned (OpenSpec.upto fnExactUsedInputsSpec)

/-- 'laws.FnExactLawAt', WHERE WHAT IT READS IS OF BULK AT MOST 1048576: true; the input reads as it did. -/
def fnExactLawAtUptoRow : OpenClaim := { program := "ytbdihgcjopbnjaa", sum := "f2323ad6cb83e36c61ea4e207266dc93fdf6ff21f2f29d1122bbaba597a9b4e3", func := "loop.example/g00832/laws.FnExactLawAt", spec := "fnExactLawAt", apart := false, narrowed := true }
def FnExactLawAtUptoSaid : Prop := fnExactLawAtUptoRow.holds Try.pinned (OpenSpec.upto fnExactLawAtSpec)

/-- 'laws.FnFits', WHERE WHAT IT READS IS OF BULK AT MOST 1048576: true; the input reads as it did. -/
def fnFitsUptoRow : OpenClaim := { program := "ytbdihgcjopbnjaa", sum := "f2323ad6cb83e36c61ea4e207266dc93fdf6ff21f2f29d1122bbaba597a9b4e3", func := "loop.example/g00832/laws.FnFits", spec := "fnFits", inPlace := ["slices.overlaps[loop.example/g00832/impl.Half]"], apart := false, narrowed := true }
def FnFitsUptoSaid : Prop := fnFitsUptoRow.holds Try.pinned (OpenSpec.upto fnFitsSpec)

/-- 'laws.FnPredicted', WHERE WHAT IT READS IS OF BULK AT MOST 1048576: true; the input reads as it did. -/
def fnPredictedUptoRow : OpenClaim := { program := "ytbdihgcjopbnjaa", sum := "f2323ad6cb83e36c61ea4e207266dc93fdf6ff21f2f29d1122bbaba597a9b4e3", func := "loop.example/g00832/laws.FnPredicted", spec := "fnPredicted", inPlace := ["slices.overlaps[loop.example/g00832/impl.Half]"], unfollowed := true, recurses := true, apart := false, narrowed := true }
def FnPredictedUptoSaid : Prop := fnPredictedUptoRow.holds Try.pinned (OpenSpec.upto fnPredictedSpec)

/-- 'laws.FnExactNewRecord', WHERE WHAT IT READS IS OF BULK AT MOST 1048576: true; the input reads as it did. -/
def fnExactNewRecordUptoRow : OpenClaim := { program := "ytbdihgcjopbnjaa", sum := "f2323ad6cb83e36c61ea4e207266dc93fdf6ff21f2f29d1122bbaba597a9b4e3", func := "loop.example/g00832/laws.FnExactNewRecord", spec := "fnExactNewRecord", inPlace := ["slices.overlaps[loop.example/g00832/impl.Half]"], apart := false, narrowed := true }
def FnExactNewRecordUptoSaid : Prop := fnExactNewRecordUptoRow.holds Try.pinned (OpenSpec.upto fnExactNewRecordSpec)

/-- 'laws.FnExactFitRegion', WHERE WHAT IT READS IS OF BULK AT MOST 1048576: true; the input reads as it did. -/
def fnExactFitRegionUptoRow : OpenClaim := { program := "ytbdihgcjopbnjaa", sum := "f2323ad6cb83e36c61ea4e207266dc93fdf6ff21f2f29d1122bbaba597a9b4e3", func := "loop.example/g00832/laws.FnExactFitRegion", spec := "fnExactFitRegion", inPlace := ["slices.overlaps[loop.example/g00832/impl.Half]"], apart := false, narrowed := true }
def FnExactFitRegionUptoSaid : Prop := fnExactFitRegionUptoRow.holds Try.pinned (OpenSpec.upto fnExactFitRegionSpec)

/-- 'laws.FnExactModesOk', WHERE WHAT IT READS IS OF BULK AT MOST 1048576: true; the input reads as it did. -/
def fnExactModesOkUptoRow : OpenClaim := { program := "ytbdihgcjopbnjaa", sum := "f2323ad6cb83e36c61ea4e207266dc93fdf6ff21f2f29d1122bbaba597a9b4e3", func := "loop.example/g00832/laws.FnExactModesOk", spec := "fnExactModesOk", inPlace := ["slices.overlaps[loop.example/g00832/impl.Half]"], apart := false, narrowed := true }
def FnExactModesOkUptoSaid : Prop := fnExactModesOkUptoRow.holds Try.pinned (OpenSpec.upto fnExactModesOkSpec)

/-- 'laws.FnExactPredictRange', WHERE WHAT IT READS IS OF BULK AT MOST 1048576: true; the input reads as it did. -/
def fnExactPredictRangeUptoRow : OpenClaim := { program := "ytbdihgcjopbnjaa", sum := "f2323ad6cb83e36c61ea4e207266dc93fdf6ff21f2f29d1122bbaba597a9b4e3", func := "loop.example/g00832/laws.FnExactPredictRange", spec := "fnExactPredictRange", inPlace := ["slices.overlaps[loop.example/g00832/impl.Half]"], unfollowed := true, recurses := true, apart := false, narrowed := true }
def FnExactPredictRangeUptoSaid : Prop := fnExactPredictRangeUptoRow.holds Try.pinned (OpenSpec.upto fnExactPredictRangeSpec)

/-- 'laws.FnExactModeRoom', WHERE WHAT IT READS IS OF BULK AT MOST 1048576: true; the input reads as it did. -/
def fnExactModeRoomUptoRow : OpenClaim := { program := "ytbdihgcjopbnjaa", sum := "f2323ad6cb83e36c61ea4e207266dc93fdf6ff21f2f29d1122bbaba597a9b4e3", func := "loop.example/g00832/laws.FnExactModeRoom", spec := "fnExactModeRoom", inPlace := ["slices.overlaps[loop.example/g00832/impl.Half]"], apart := false, narrowed := true }
def FnExactModeRoomUptoSaid : Prop := fnExactModeRoomUptoRow.holds Try.pinned (OpenSpec.upto fnExactModeRoomSpec)

end Rows
end Go.Proofs.Ytbdihgcjopbnjaa
