/-
  No cell of these rows narrows 'for every input' (looked for: loops, veiled, ifaces, maps, wideKeys, modest, calm, conditions, laid).
  DERIVED. THE GIVEN ROWS OF THIS SEAT. 10 by the template 'for every input the law returns true; each argument reads behind the call as it read before'; 0 by the template 'total and deterministic' (their statements: YtabfdkpdppemaaaGreatTotals.lean).
  GIVEN WITH THE SEED: the statements are not yours to turn. If you find one false, say at which input.
  Laid BY PROGRAM, IN A SANDBOX (cutbox-rows.mjs): the forced cells as the released guide's own fill.sh prints them over the translation 29ca5d64758d79b9… (all of the seat's roots in one cut). By AI agents, Wed Nov 11 2026. No macro, syntax, notation, axiom, sorry.
-/
import Derived.Test.YtabfdkpdppemaaaGreatChecked
import GoSem.Claim
import GoSem.ClaimJoined
import GoSem.ClaimMapViews
import Derived.JoinedTies
import Derived.KernelRfl
namespace Go.Proofs.YtabfdkpdppemaaaGreat
/- THE CELL 'sum', in the pinned program and in every row, IS THE sha256 OF THE DUMP (.gsa) THAT YtabfdkpdppemaaaGreatProg.lean LOADS. Nothing in Lean hashes anything: it is a label: what it is worth is what the hold of that sum in a sandbox is worth. -/
noncomputable def Tryz.pinned : Pinned := { name := "ytabfdkpdppemaaagreat", sum := "29ca5d64758d79b9f043cb58659d9767a67478c27bf2d19aee66e15c47528911", checked := Tryz.checked }
namespace Rows
def none {H : Type} : Left H := { results := [], args := [] }

/-- 'laws.FnMonitors': WHATEVER THE INPUT: true; the input reads as it did. -/
def fnMonitorsSpec : ChangeSpec := { name := "fnMonitors", fn := fun _ => fun
  | [d] => { results := [.lit (.bool true)], args := [d] }
  | _ => none }
def fnMonitorsRow : OpenClaim := { program := "ytabfdkpdppemaaagreat", sum := "29ca5d64758d79b9f043cb58659d9767a67478c27bf2d19aee66e15c47528911", func := "loop.example/g00832/laws.FnMonitors", spec := "fnMonitors", inPlace := ["slices.overlaps[loop.example/g00832/impl.Half]"], unfollowed := true, recurses := true, apart := false }
def FnMonitorsSaid : Prop := fnMonitorsRow.holds Tryz.pinned (OpenSpec.ofChange fnMonitorsSpec)

/-- ITS FALSE NEIGHBOUR: 'it returns false'. Refute it at one input. -/
def fnMonitorsWrong : ChangeSpec := { name := "fnMonitors", fn := fun _ => fun
  | [d] => { results := [.lit (.bool false)], args := [d] }
  | _ => none }
def FnMonitorsWrongFalsely : Prop := fnMonitorsRow.holds Tryz.pinned (OpenSpec.ofChange fnMonitorsWrong)

/-- 'laws.FnFaults': WHATEVER THE INPUT: true; the input reads as it did. -/
def fnFaultsSpec : ChangeSpec := { name := "fnFaults", fn := fun _ => fun
  | [d] => { results := [.lit (.bool true)], args := [d] }
  | _ => none }
def fnFaultsRow : OpenClaim := { program := "ytabfdkpdppemaaagreat", sum := "29ca5d64758d79b9f043cb58659d9767a67478c27bf2d19aee66e15c47528911", func := "loop.example/g00832/laws.FnFaults", spec := "fnFaults", inPlace := ["slices.overlaps[loop.example/g00832/impl.Half]"], unfollowed := true, recurses := true, apart := false }
def FnFaultsSaid : Prop := fnFaultsRow.holds Tryz.pinned (OpenSpec.ofChange fnFaultsSpec)

/-- ITS FALSE NEIGHBOUR: 'it returns false'. Refute it at one input. -/
def fnFaultsWrong : ChangeSpec := { name := "fnFaults", fn := fun _ => fun
  | [d] => { results := [.lit (.bool false)], args := [d] }
  | _ => none }
def FnFaultsWrongFalsely : Prop := fnFaultsRow.holds Tryz.pinned (OpenSpec.ofChange fnFaultsWrong)

/-- 'laws.FnTop': WHATEVER THE INPUT: true; the input reads as it did. -/
def fnTopSpec : ChangeSpec := { name := "fnTop", fn := fun _ => fun
  | [d] => { results := [.lit (.bool true)], args := [d] }
  | _ => none }
def fnTopRow : OpenClaim := { program := "ytabfdkpdppemaaagreat", sum := "29ca5d64758d79b9f043cb58659d9767a67478c27bf2d19aee66e15c47528911", func := "loop.example/g00832/laws.FnTop", spec := "fnTop", inPlace := ["slices.overlaps[loop.example/g00832/impl.Half]"], unfollowed := true, recurses := true, apart := false }
def FnTopSaid : Prop := fnTopRow.holds Tryz.pinned (OpenSpec.ofChange fnTopSpec)

/-- ITS FALSE NEIGHBOUR: 'it returns false'. Refute it at one input. -/
def fnTopWrong : ChangeSpec := { name := "fnTop", fn := fun _ => fun
  | [d] => { results := [.lit (.bool false)], args := [d] }
  | _ => none }
def FnTopWrongFalsely : Prop := fnTopRow.holds Tryz.pinned (OpenSpec.ofChange fnTopWrong)

/-- 'laws.FnDriftRooms': WHATEVER THE INPUT: true; the input reads as it did. -/
def fnDriftRoomsSpec : ChangeSpec := { name := "fnDriftRooms", fn := fun _ => fun
  | [d] => { results := [.lit (.bool true)], args := [d] }
  | _ => none }
def fnDriftRoomsRow : OpenClaim := { program := "ytabfdkpdppemaaagreat", sum := "29ca5d64758d79b9f043cb58659d9767a67478c27bf2d19aee66e15c47528911", func := "loop.example/g00832/laws.FnDriftRooms", spec := "fnDriftRooms", inPlace := ["slices.overlaps[loop.example/g00832/impl.Half]"], unfollowed := true, recurses := true, apart := false }
def FnDriftRoomsSaid : Prop := fnDriftRoomsRow.holds Tryz.pinned (OpenSpec.ofChange fnDriftRoomsSpec)

/-- ITS FALSE NEIGHBOUR: 'it returns false'. Refute it at one input. -/
def fnDriftRoomsWrong : ChangeSpec := { name := "fnDriftRooms", fn := fun _ => fun
  | [d] => { results := [.lit (.bool false)], args := [d] }
  | _ => none }
def FnDriftRoomsWrongFalsely : Prop := fnDriftRoomsRow.holds Tryz.pinned (OpenSpec.ofChange fnDriftRoomsWrong)

/-- 'laws.FnDrifts': WHATEVER THE INPUT: true; the input reads as it did. -/
def fnDriftsSpec : ChangeSpec := { name := "fnDrifts", fn := fun _ => fun
  | [d] => { results := [.lit (.bool true)], args := [d] }
  | _ => none }
def fnDriftsRow : OpenClaim := { program := "ytabfdkpdppemaaagreat", sum := "29ca5d64758d79b9f043cb58659d9767a67478c27bf2d19aee66e15c47528911", func := "loop.example/g00832/laws.FnDrifts", spec := "fnDrifts", inPlace := ["slices.overlaps[loop.example/g00832/impl.Half]"], unfollowed := true, recurses := true, apart := false }
def FnDriftsSaid : Prop := fnDriftsRow.holds Tryz.pinned (OpenSpec.ofChange fnDriftsSpec)

/-- ITS FALSE NEIGHBOUR: 'it returns false'. Refute it at one input. -/
def fnDriftsWrong : ChangeSpec := { name := "fnDrifts", fn := fun _ => fun
  | [d] => { results := [.lit (.bool false)], args := [d] }
  | _ => none }
def FnDriftsWrongFalsely : Prop := fnDriftsRow.holds Tryz.pinned (OpenSpec.ofChange fnDriftsWrong)

/-- 'laws.FnPieces': WHATEVER THE INPUT: true; the input reads as it did. -/
def fnPiecesSpec : ChangeSpec := { name := "fnPieces", fn := fun _ => fun
  | [d] => { results := [.lit (.bool true)], args := [d] }
  | _ => none }
def fnPiecesRow : OpenClaim := { program := "ytabfdkpdppemaaagreat", sum := "29ca5d64758d79b9f043cb58659d9767a67478c27bf2d19aee66e15c47528911", func := "loop.example/g00832/laws.FnPieces", spec := "fnPieces", inPlace := ["slices.overlaps[loop.example/g00832/impl.Half]"], unfollowed := true, recurses := true, apart := false }
def FnPiecesSaid : Prop := fnPiecesRow.holds Tryz.pinned (OpenSpec.ofChange fnPiecesSpec)

/-- ITS FALSE NEIGHBOUR: 'it returns false'. Refute it at one input. -/
def fnPiecesWrong : ChangeSpec := { name := "fnPieces", fn := fun _ => fun
  | [d] => { results := [.lit (.bool false)], args := [d] }
  | _ => none }
def FnPiecesWrongFalsely : Prop := fnPiecesRow.holds Tryz.pinned (OpenSpec.ofChange fnPiecesWrong)

/-- 'laws.FnCells': WHATEVER THE INPUT: true; the input reads as it did. -/
def fnCellsSpec : ChangeSpec := { name := "fnCells", fn := fun _ => fun
  | [d] => { results := [.lit (.bool true)], args := [d] }
  | _ => none }
def fnCellsRow : OpenClaim := { program := "ytabfdkpdppemaaagreat", sum := "29ca5d64758d79b9f043cb58659d9767a67478c27bf2d19aee66e15c47528911", func := "loop.example/g00832/laws.FnCells", spec := "fnCells", inPlace := ["slices.overlaps[loop.example/g00832/impl.Half]"], unfollowed := true, recurses := true, apart := false }
def FnCellsSaid : Prop := fnCellsRow.holds Tryz.pinned (OpenSpec.ofChange fnCellsSpec)

/-- ITS FALSE NEIGHBOUR: 'it returns false'. Refute it at one input. -/
def fnCellsWrong : ChangeSpec := { name := "fnCells", fn := fun _ => fun
  | [d] => { results := [.lit (.bool false)], args := [d] }
  | _ => none }
def FnCellsWrongFalsely : Prop := fnCellsRow.holds Tryz.pinned (OpenSpec.ofChange fnCellsWrong)

/-- 'laws.FnLaws': WHATEVER THE INPUT: true; the input reads as it did. -/
def fnLawsSpec : ChangeSpec := { name := "fnLaws", fn := fun _ => fun
  | [d] => { results := [.lit (.bool true)], args := [d] }
  | _ => none }
def fnLawsRow : OpenClaim := { program := "ytabfdkpdppemaaagreat", sum := "29ca5d64758d79b9f043cb58659d9767a67478c27bf2d19aee66e15c47528911", func := "loop.example/g00832/laws.FnLaws", spec := "fnLaws", inPlace := ["slices.overlaps[loop.example/g00832/impl.Half]"], unfollowed := true, recurses := true, apart := false }
def FnLawsSaid : Prop := fnLawsRow.holds Tryz.pinned (OpenSpec.ofChange fnLawsSpec)

/-- ITS FALSE NEIGHBOUR: 'it returns false'. Refute it at one input. -/
def fnLawsWrong : ChangeSpec := { name := "fnLaws", fn := fun _ => fun
  | [d] => { results := [.lit (.bool false)], args := [d] }
  | _ => none }
def FnLawsWrongFalsely : Prop := fnLawsRow.holds Tryz.pinned (OpenSpec.ofChange fnLawsWrong)

/-- 'laws.FnExactLowRegions': WHATEVER THE INPUT: true; the input reads as it did. -/
def fnExactLowRegionsSpec : ChangeSpec := { name := "fnExactLowRegions", fn := fun _ => fun
  | [d1, d2, d3] => { results := [.lit (.bool true)], args := [d1, d2, d3] }
  | _ => none }
def fnExactLowRegionsRow : OpenClaim := { program := "ytabfdkpdppemaaagreat", sum := "29ca5d64758d79b9f043cb58659d9767a67478c27bf2d19aee66e15c47528911", func := "loop.example/g00832/laws.FnExactLowRegions", spec := "fnExactLowRegions", inPlace := ["slices.overlaps[loop.example/g00832/impl.Half]"], apart := false }
def FnExactLowRegionsSaid : Prop := fnExactLowRegionsRow.holds Tryz.pinned (OpenSpec.ofChange fnExactLowRegionsSpec)

/-- ITS FALSE NEIGHBOUR: 'it returns false'. Refute it at one input. -/
def fnExactLowRegionsWrong : ChangeSpec := { name := "fnExactLowRegions", fn := fun _ => fun
  | [d1, d2, d3] => { results := [.lit (.bool false)], args := [d1, d2, d3] }
  | _ => none }
def FnExactLowRegionsWrongFalsely : Prop := fnExactLowRegionsRow.holds Tryz.pinned (OpenSpec.ofChange fnExactLowRegionsWrong)

/-- 'laws.FnExactWatchStep': WHATEVER THE INPUT: true; the input reads as it did. -/
def fnExactWatchStepSpec : ChangeSpec := { name := "fnExactWatchStep", fn := fun _ => fun
  | [d1, d2, d3] => { results := [.lit (.bool true)], args := [d1, d2, d3] }
  | _ => none }
def fnExactWatchStepRow : OpenClaim := { program := "ytabfdkpdppemaaagreat", sum := "29ca5d64758d79b9f043cb58659d9767a67478c27bf2d19aee66e15c47528911", func := "loop.example/g00832/laws.FnExactWatchStep", spec := "fnExactWatchStep", inPlace := ["slices.overlaps[loop.example/g00832/impl.Half]"], unfollowed := true, recurses := true, apart := false }
def FnExactWatchStepSaid : Prop := fnExactWatchStepRow.holds Tryz.pinned (OpenSpec.ofChange fnExactWatchStepSpec)

/-- ITS FALSE NEIGHBOUR: 'it returns false'. Refute it at one input. -/
def fnExactWatchStepWrong : ChangeSpec := { name := "fnExactWatchStep", fn := fun _ => fun
  | [d1, d2, d3] => { results := [.lit (.bool false)], args := [d1, d2, d3] }
  | _ => none }
def FnExactWatchStepWrongFalsely : Prop := fnExactWatchStepRow.holds Tryz.pinned (OpenSpec.ofChange fnExactWatchStepWrong)

/- THE SECOND FORM. 'bulk': how many values and letters a reading holds, each counted each time it is reached (what is shared counts as often as it is met; a slice's spare places count too). A statement '..UptoSaid' is the law's where the arguments, and the package variables that the reading takes, are together of bulk at most 1048576: NARROWER than '..Said'. Prove '..Said' where nothing that the law and all that it calls make is longer than what came in: it says more and counts as full. Else prove '..UptoSaid'. A law counts once. -/
mutual
def uptoBulk {H : Type} : DataW H → Nat
  | .lit (.string bytes) => bytes.length + 1
  | .lit _ => 1
  | .nil => 1
  | .ptr d => uptoBulk d + 1
  | .slice elems spare => uptoBulkAll elems + uptoBulkAll spare + 1
  | .agg parts => uptoBulkAll parts + 1
  | .iface _ d => uptoBulk d + 1
  | .map entries => uptoBulkEntries entries + 1
  | .held _ => 1
def uptoBulkAll {H : Type} : List (DataW H) → Nat
  | [] => 0
  | d :: r => uptoBulk d + uptoBulkAll r
def uptoBulkEntries {H : Type} : List (Lit × DataW H) → Nat
  | [] => 0
  | x :: r => uptoBulkEntry x + uptoBulkEntries r
def uptoBulkEntry {H : Type} : Lit × DataW H → Nat
  | (.string bytes, d) => bytes.length + uptoBulk d + 1
  | (_, d) => uptoBulk d + 1
 end
def uptoSmall : (H : Type) → List (DataW H) → Bool := fun _ ds => decide (uptoBulkAll ds ≤ 1048576)
def OpenSpec.upto (s : _root_.Go.ChangeSpec) : _root_.Go.OpenSpec := { _root_.Go.OpenSpec.ofChange s with cond := some uptoSmall }

/-- 'laws.FnMonitors', WHERE WHAT IT READS IS OF BULK AT MOST 1048576: true; the input reads as it did. -/
def fnMonitorsUptoRow : OpenClaim := { program := "ytabfdkpdppemaaagreat", sum := "29ca5d64758d79b9f043cb58659d9767a67478c27bf2d19aee66e15c47528911", func := "loop.example/g00832/laws.FnMonitors", spec := "fnMonitors", inPlace := ["slices.overlaps[loop.example/g00832/impl.Half]"], unfollowed := true, recurses := true, apart := false, narrowed := true }
def FnMonitorsUptoSaid : Prop := fnMonitorsUptoRow.holds Tryz.pinned (OpenSpec.upto fnMonitorsSpec)

/-- 'laws.FnFaults', WHERE WHAT IT READS IS OF BULK AT MOST 1048576: true; the input reads as it did. -/
def fnFaultsUptoRow : OpenClaim := { program := "ytabfdkpdppemaaagreat", sum := "29ca5d64758d79b9f043cb58659d9767a67478c27bf2d19aee66e15c47528911", func := "loop.example/g00832/laws.FnFaults", spec := "fnFaults", inPlace := ["slices.overlaps[loop.example/g00832/impl.Half]"], unfollowed := true, recurses := true, apart := false, narrowed := true }
def FnFaultsUptoSaid : Prop := fnFaultsUptoRow.holds Tryz.pinned (OpenSpec.upto fnFaultsSpec)

/-- 'laws.FnTop', WHERE WHAT IT READS IS OF BULK AT MOST 1048576: true; the input reads as it did. -/
def fnTopUptoRow : OpenClaim := { program := "ytabfdkpdppemaaagreat", sum := "29ca5d64758d79b9f043cb58659d9767a67478c27bf2d19aee66e15c47528911", func := "loop.example/g00832/laws.FnTop", spec := "fnTop", inPlace := ["slices.overlaps[loop.example/g00832/impl.Half]"], unfollowed := true, recurses := true, apart := false, narrowed := true }
def FnTopUptoSaid : Prop := fnTopUptoRow.holds Tryz.pinned (OpenSpec.upto fnTopSpec)

/-- 'laws.FnDriftRooms', WHERE WHAT IT READS IS OF BULK AT MOST 1048576: true; the input reads as it did. -/
def fnDriftRoomsUptoRow : OpenClaim := { program := "ytabfdkpdppemaaagreat", sum := "29ca5d64758d79b9f043cb58659d9767a67478c27bf2d19aee66e15c47528911", func := "loop.example/g00832/laws.FnDriftRooms", spec := "fnDriftRooms", inPlace := ["slices.overlaps[loop.example/g00832/impl.Half]"], unfollowed := true, recurses := true, apart := false, narrowed := true }
def FnDriftRoomsUptoSaid : Prop := fnDriftRoomsUptoRow.holds Tryz.pinned (OpenSpec.upto fnDriftRoomsSpec)

/-- 'laws.FnDrifts', WHERE WHAT IT READS IS OF BULK AT MOST 1048576: true; the input reads as it did. -/
def fnDriftsUptoRow : OpenClaim := { program := "ytabfdkpdppemaaagreat", sum := "29ca5d64758d79b9f043cb58659d9767a67478c27bf2d19aee66e15c47528911", func := "loop.example/g00832/laws.FnDrifts", spec := "fnDrifts", inPlace := ["slices.overlaps[loop.example/g00832/impl.Half]"], unfollowed := true, recurses := true, apart := false, narrowed := true }
def FnDriftsUptoSaid : Prop := fnDriftsUptoRow.holds Tryz.pinned (OpenSpec.upto fnDriftsSpec)

/-- 'laws.FnPieces', WHERE WHAT IT READS IS OF BULK AT MOST 1048576: true; the input reads as it did. -/
def fnPiecesUptoRow : OpenClaim := { program := "ytabfdkpdppemaaagreat", sum := "29ca5d64758d79b9f043cb58659d9767a67478c27bf2d19aee66e15c47528911", func := "loop.example/g00832/laws.FnPieces", spec := "fnPieces", inPlace := ["slices.overlaps[loop.example/g00832/impl.Half]"], unfollowed := true, recurses := true, apart := false, narrowed := true }
def FnPiecesUptoSaid : Prop := fnPiecesUptoRow.holds Tryz.pinned (OpenSpec.upto fnPiecesSpec)

/-- 'laws.FnCells', WHERE WHAT IT READS IS OF BULK AT MOST 1048576: true; the input reads as it did. -/
def fnCellsUptoRow : OpenClaim := { program := "ytabfdkpdppemaaagreat", sum := "29ca5d64758d79b9f043cb58659d9767a67478c27bf2d19aee66e15c47528911", func := "loop.example/g00832/laws.FnCells", spec := "fnCells", inPlace := ["slices.overlaps[loop.example/g00832/impl.Half]"], unfollowed := true, recurses := true, apart := false, narrowed := true }
def FnCellsUptoSaid : Prop := fnCellsUptoRow.holds Tryz.pinned (OpenSpec.upto fnCellsSpec)

/-- 'laws.FnLaws', WHERE WHAT IT READS IS OF BULK AT MOST 1048576: true; the input reads as it did. -/
def fnLawsUptoRow : OpenClaim := { program := "ytabfdkpdppemaaagreat", sum := "29ca5d64758d79b9f043cb58659d9767a67478c27bf2d19aee66e15c47528911", func := "loop.example/g00832/laws.FnLaws", spec := "fnLaws", inPlace := ["slices.overlaps[loop.example/g00832/impl.Half]"], unfollowed := true, recurses := true, apart := false, narrowed := true }
def FnLawsUptoSaid : Prop := fnLawsUptoRow.holds Tryz.pinned (OpenSpec.upto fnLawsSpec)

/-- 'laws.FnExactLowRegions', WHERE WHAT IT READS IS OF BULK AT MOST 1048576: true; the input reads as it did. -/
def fnExactLowRegionsUptoRow : OpenClaim := { program := "ytabfdkpdppemaaagreat", sum := "29ca5d64758d79b9f043cb58659d9767a67478c27bf2d19aee66e15c47528911", func := "loop.example/g00832/laws.FnExactLowRegions", spec := "fnExactLowRegions", inPlace := ["slices.overlaps[loop.example/g00832/impl.Half]"], apart := false, narrowed := true }
def FnExactLowRegionsUptoSaid : Prop := fnExactLowRegionsUptoRow.holds Tryz.pinned (OpenSpec.upto fnExactLowRegionsSpec)

/-- 'laws.FnExactWatchStep', WHERE WHAT IT READS IS OF BULK AT MOST 1048576: true; the input reads as it did. -/
def fnExactWatchStepUptoRow : OpenClaim := { program := "ytabfdkpdppemaaagreat", sum := "29ca5d64758d79b9f043cb58659d9767a67478c27bf2d19aee66e15c47528911", func := "loop.example/g00832/laws.FnExactWatchStep", spec := "fnExactWatchStep", inPlace := ["slices.overlaps[loop.example/g00832/impl.Half]"], unfollowed := true, recurses := true, apart := false, narrowed := true }
def FnExactWatchStepUptoSaid : Prop := fnExactWatchStepUptoRow.holds Tryz.pinned (OpenSpec.upto fnExactWatchStepSpec)

end Rows
end Go.Proofs.YtabfdkpdppemaaaGreat
