/-
  No cell of these rows narrows 'for every input' (looked for: loops, veiled, ifaces, maps, wideKeys, modest, calm, conditions, laid).
  DERIVED. THE GIVEN ROWS OF THIS SEAT. 6 by the template 'for every input the law returns true; each argument reads behind the call as it read before'; 0 by the template 'total and deterministic' (their statements: YtbdmmfboiilamaaTotals.lean).
  GIVEN WITH THE SEED: the statements are not yours to turn. If you find one false, say at which input.
  Laid BY PROGRAM, IN A SANDBOX (cutbox-rows.mjs): the forced cells as the released guide's own fill.sh prints them over the translation ebe951696e7b5c8f… (all of the seat's roots in one cut). By AI agents, Wed Nov 11 2026. No macro, syntax, notation, axiom, sorry.
-/
import Derived.Test.YtbdmmfboiilamaaChecked
import GoSem.Claim
import GoSem.ClaimJoined
import GoSem.ClaimMapViews
import Derived.JoinedTies
import Derived.KernelRfl
namespace Go.Proofs.Ytbdmmfboiilamaa
/- THE CELL 'sum', in the pinned program and in every row, IS THE sha256 OF THE DUMP (.gsa) THAT YtbdmmfboiilamaaProg.lean LOADS. Nothing in Lean hashes anything: it is a label: what it is worth is what the hold of that sum in a sandbox is worth. -/
noncomputable def Try.pinned : Pinned := { name := "ytbdmmfboiilamaa", sum := "ebe951696e7b5c8fc833d27cb9a5455a7790762f6a8699463286d6f5631e568d", checked := Try.checked }
namespace Rows
def none {H : Type} : Left H := { results := [], args := [] }

/-- 'laws.FnExactRecordsOk': WHATEVER THE INPUT: true; the input reads as it did. -/
def fnExactRecordsOkSpec : ChangeSpec := { name := "fnExactRecordsOk", fn := fun _ => fun
  | [d] => { results := [.lit (.bool true)], args := [d] }
  | _ => none }
def fnExactRecordsOkRow : OpenClaim := { program := "ytbdmmfboiilamaa", sum := "ebe951696e7b5c8fc833d27cb9a5455a7790762f6a8699463286d6f5631e568d", func := "loop.example/g00832/laws.FnExactRecordsOk", spec := "fnExactRecordsOk", apart := false }
def FnExactRecordsOkSaid : Prop := fnExactRecordsOkRow.holds Try.pinned (OpenSpec.ofChange fnExactRecordsOkSpec)

/-- ITS FALSE NEIGHBOUR: 'it returns false'. Refute it at one input. -/
def fnExactRecordsOkWrong : ChangeSpec := { name := "fnExactRecordsOk", fn := fun _ => fun
  | [d] => { results := [.lit (.bool false)], args := [d] }
  | _ => none }
def FnExactRecordsOkWrongFalsely : Prop := fnExactRecordsOkRow.holds Try.pinned (OpenSpec.ofChange fnExactRecordsOkWrong)

/-- 'laws.FnExactTableOk': WHATEVER THE INPUT: true; the input reads as it did. -/
def fnExactTableOkSpec : ChangeSpec := { name := "fnExactTableOk", fn := fun _ => fun
  | [d] => { results := [.lit (.bool true)], args := [d] }
  | _ => none }
def fnExactTableOkRow : OpenClaim := { program := "ytbdmmfboiilamaa", sum := "ebe951696e7b5c8fc833d27cb9a5455a7790762f6a8699463286d6f5631e568d", func := "loop.example/g00832/laws.FnExactTableOk", spec := "fnExactTableOk", apart := false }
def FnExactTableOkSaid : Prop := fnExactTableOkRow.holds Try.pinned (OpenSpec.ofChange fnExactTableOkSpec)

/-- ITS FALSE NEIGHBOUR: 'it returns false'. Refute it at one input. -/
def fnExactTableOkWrong : ChangeSpec := { name := "fnExactTableOk", fn := fun _ => fun
  | [d] => { results := [.lit (.bool false)], args := [d] }
  | _ => none }
def FnExactTableOkWrongFalsely : Prop := fnExactTableOkRow.holds Try.pinned (OpenSpec.ofChange fnExactTableOkWrong)

/-- 'laws.FnExactCoveredCells': WHATEVER THE INPUT: true; the input reads as it did. -/
def fnExactCoveredCellsSpec : ChangeSpec := { name := "fnExactCoveredCells", fn := fun _ => fun
  | [d] => { results := [.lit (.bool true)], args := [d] }
  | _ => none }
def fnExactCoveredCellsRow : OpenClaim := { program := "ytbdmmfboiilamaa", sum := "ebe951696e7b5c8fc833d27cb9a5455a7790762f6a8699463286d6f5631e568d", func := "loop.example/g00832/laws.FnExactCoveredCells", spec := "fnExactCoveredCells", apart := false }
def FnExactCoveredCellsSaid : Prop := fnExactCoveredCellsRow.holds Try.pinned (OpenSpec.ofChange fnExactCoveredCellsSpec)

/-- ITS FALSE NEIGHBOUR: 'it returns false'. Refute it at one input. -/
def fnExactCoveredCellsWrong : ChangeSpec := { name := "fnExactCoveredCells", fn := fun _ => fun
  | [d] => { results := [.lit (.bool false)], args := [d] }
  | _ => none }
def FnExactCoveredCellsWrongFalsely : Prop := fnExactCoveredCellsRow.holds Try.pinned (OpenSpec.ofChange fnExactCoveredCellsWrong)

/-- 'laws.FnExactPieceAt': WHATEVER THE INPUT: true; the input reads as it did. -/
def fnExactPieceAtSpec : ChangeSpec := { name := "fnExactPieceAt", fn := fun _ => fun
  | [d1, d2] => { results := [.lit (.bool true)], args := [d1, d2] }
  | _ => none }
def fnExactPieceAtRow : OpenClaim := { program := "ytbdmmfboiilamaa", sum := "ebe951696e7b5c8fc833d27cb9a5455a7790762f6a8699463286d6f5631e568d", func := "loop.example/g00832/laws.FnExactPieceAt", spec := "fnExactPieceAt", apart := false }
def FnExactPieceAtSaid : Prop := fnExactPieceAtRow.holds Try.pinned (OpenSpec.ofChange fnExactPieceAtSpec)

/-- ITS FALSE NEIGHBOUR: 'it returns false'. Refute it at one input. -/
def fnExactPieceAtWrong : ChangeSpec := { name := "fnExactPieceAt", fn := fun _ => fun
  | [d1, d2] => { results := [.lit (.bool false)], args := [d1, d2] }
  | _ => none }
def FnExactPieceAtWrongFalsely : Prop := fnExactPieceAtRow.holds Try.pinned (OpenSpec.ofChange fnExactPieceAtWrong)

/-- 'laws.FnExactRecordHalves': WHATEVER THE INPUT: true; the input reads as it did. -/
def fnExactRecordHalvesSpec : ChangeSpec := { name := "fnExactRecordHalves", fn := fun _ => fun
  | [d1, d2] => { results := [.lit (.bool true)], args := [d1, d2] }
  | _ => none }
def fnExactRecordHalvesRow : OpenClaim := { program := "ytbdmmfboiilamaa", sum := "ebe951696e7b5c8fc833d27cb9a5455a7790762f6a8699463286d6f5631e568d", func := "loop.example/g00832/laws.FnExactRecordHalves", spec := "fnExactRecordHalves", apart := false }
def FnExactRecordHalvesSaid : Prop := fnExactRecordHalvesRow.holds Try.pinned (OpenSpec.ofChange fnExactRecordHalvesSpec)

/-- ITS FALSE NEIGHBOUR: 'it returns false'. Refute it at one input. -/
def fnExactRecordHalvesWrong : ChangeSpec := { name := "fnExactRecordHalves", fn := fun _ => fun
  | [d1, d2] => { results := [.lit (.bool false)], args := [d1, d2] }
  | _ => none }
def FnExactRecordHalvesWrongFalsely : Prop := fnExactRecordHalvesRow.holds Try.pinned (OpenSpec.ofChange fnExactRecordHalvesWrong)

/-- 'laws.FnExactPossibleStates': WHATEVER THE INPUT: true; the input reads as it did. -/
def fnExactPossibleStatesSpec : ChangeSpec := { name := "fnExactPossibleStates", fn := fun _ => fun
  | [d1, d2, d3] => { results := [.lit (.bool true)], args := [d1, d2, d3] }
  | _ => none }
def fnExactPossibleStatesRow : OpenClaim := { program := "ytbdmmfboiilamaa", sum := "ebe951696e7b5c8fc833d27cb9a5455a7790762f6a8699463286d6f5631e568d", func := "loop.example/g00832/laws.FnExactPossibleStates", spec := "fnExactPossibleStates", apart := false }
def FnExactPossibleStatesSaid : Prop := fnExactPossibleStatesRow.holds Try.pinned (OpenSpec.ofChange fnExactPossibleStatesSpec)

/-- ITS FALSE NEIGHBOUR: 'it returns false'. Refute it at one input. -/
def fnExactPossibleStatesWrong : ChangeSpec := { name := "fnExactPossibleStates", fn := fun _ => fun
  | [d1, d2, d3] => { results := [.lit (.bool false)], args := [d1, d2, d3] }
  | _ => none }
def FnExactPossibleStatesWrongFalsely : Prop := fnExactPossibleStatesRow.holds Try.pinned (OpenSpec.ofChange fnExactPossibleStatesWrong)

/- THE SECOND FORM. 'bulk': how many values and letters a reading holds, each counted each time it is reached (what is shared counts as often as it is met; a slice's spare places count too). A statement '..UptoSaid' is the law's where the arguments, and the package variables that the reading takes, are together of bulk at most 1048576: NARROWER than '..Said'. Prove '..Said' where nothing that the law and all that it calls make is longer than what came in: it says more and counts as full. Else prove '..UptoSaid'. A law counts once. -/
mutual
def uptoBulk {H : Type} : DataW H → Nat
  | .lit (.string bytes) => bytes.length + 1
  | .lit _ => 1
  | .nil => 1
  | .ptr d => uptoBulk d + 1
  | .slice elems spare => uptoBulkAll elems + uptoBulkAll spare + 1
  | .agg parts => uptoBulkAll parts + 1
  | .iface _ d => uptoBulk d + 1
  | .map entries => uptoBulkEntries entries + 1
  | .held _ => 1
def uptoBulkAll {H : Type} : List (DataW H) → Nat
  | [] => 0
  | d :: r => uptoBulk d + uptoBulkAll r
def uptoBulkEntries {H : Type} : List (Lit × DataW H) → Nat
  | [] => 0
  | x :: r => uptoBulkEntry x + uptoBulkEntries r
def uptoBulkEntry {H : Type} : Lit × DataW H → Nat
  | (.string bytes, d) => bytes.length + uptoBulk d + 1
  | (_, d) => uptoBulk d + 1
 end
def uptoSmall : (H : Type) → List (DataW H) → Bool := fun _ ds => decide (uptoBulkAll ds ≤ 1048576)
def OpenSpec.upto (s : _root_.Go.ChangeSpec) : _root_.Go.OpenSpec := { _root_.Go.OpenSpec.ofChange s with cond := some uptoSmall }

/-- 'laws.FnExactRecordsOk', WHERE WHAT IT READS IS OF BULK AT MOST 1048576: true; the input reads as it did. -/
def fnExactRecordsOkUptoRow : OpenClaim := { program := "ytbdmmfboiilamaa", sum := "ebe951696e7b5c8fc833d27cb9a5455a7790762f6a8699463286d6f5631e568d", func := "loop.example/g00832/laws.FnExactRecordsOk", spec := "fnExactRecordsOk", apart := false, narrowed := true }
def FnExactRecordsOkUptoSaid : Prop := fnExactRecordsOkUptoRow.holds Try.pinned (OpenSpec.upto fnExactRecordsOkSpec)

/-- 'laws.FnExactTableOk', WHERE WHAT IT READS IS OF BULK AT MOST 1048576: true; the input reads as it did. -/
def fnExactTableOkUptoRow : OpenClaim := { program := "ytbdmmfboiilamaa", sum := "ebe951696e7b5c8fc833d27cb9a5455a7790762f6a8699463286d6f5631e568d", func := "loop.example/g00832/laws.FnExactTableOk", spec := "fnExactTableOk", apart := false, narrowed := true }
def FnExactTableOkUptoSaid : Prop := fnExactTableOkUptoRow.holds Try.pinned (OpenSpec.upto fnExactTableOkSpec)

/-- 'laws.FnExactCoveredCells', WHERE WHAT IT READS IS OF BULK AT MOST 1048576: true; the input reads as it did. -/
def fnExactCoveredCellsUptoRow : OpenClaim := { program := "ytbdmmfboiilamaa", sum := "ebe951696e7b5c8fc833d27cb9a5455a7790762f6a8699463286d6f5631e568d", func := "loop.example/g00832/laws.FnExactCoveredCells", spec := "fnExactCoveredCells", apart := false, narrowed := true }
def FnExactCoveredCellsUptoSaid : Prop := fnExactCoveredCellsUptoRow.holds Try.pinned (OpenSpec.upto fnExactCoveredCellsSpec)

/-- 'laws.FnExactPieceAt', WHERE WHAT IT READS IS OF BULK AT MOST 1048576: true; the input reads as it did. -/
def fnExactPieceAtUptoRow : OpenClaim := { program := "ytbdmmfboiilamaa", sum := "ebe951696e7b5c8fc833d27cb9a5455a7790762f6a8699463286d6f5631e568d", func := "loop.example/g00832/laws.FnExactPieceAt", spec := "fnExactPieceAt", apart := false, narrowed := true }
def FnExactPieceAtUptoSaid : Prop := fnExactPieceAtUptoRow.holds Try.pinned (OpenSpec.upto fnExactPieceAtSpec)

/-- 'laws.FnExactRecordHalves', WHERE WHAT IT READS IS OF BULK AT MOST 1048576: true; the input reads as it did. -/
def fnExactRecordHalvesUptoRow : OpenClaim := { program := "ytbdmmfboiilamaa", sum := "ebe951696e7b5c8fc833d27cb9a5455a7790762f6a8699463286d6f5631e568d", func := "loop.example/g00832/laws.FnExactRecordHalves", spec := "fnExactRecordHalves", apart := false, narrowed := true }
def FnExactRecordHalvesUptoSaid : Prop := fnExactRecordHalvesUptoRow.holds Try.pinned (OpenSpec.upto fnExactRecordHalvesSpec)

/-- 'laws.FnExactPossibleStates', WHERE WHAT IT READS IS OF BULK AT MOST 1048576: true; the input reads as it did. -/
def fnExactPossibleStatesUptoRow : OpenClaim := { program := "ytbdmmfboiilamaa", sum := "ebe951696e7b5c8fc833d27cb9a5455a7790762f6a8699463286d6f5631e568d", func := "loop.example/g00832/laws.FnExactPossibleStates", spec := "fnExactPossibleStates", apart := false, narrowed := true }
def FnExactPossibleStatesUptoSaid : Prop := fnExactPossibleStatesUptoRow.holds Try.pinned (OpenSpec.upto fnExactPossibleStatesSpec)

end Rows
end Go.Proofs.Ytbdmmfboiilamaa
