/-
  No cell of these rows narrows 'for every input' (looked for: loops, veiled, ifaces, maps, wideKeys, modest, calm, conditions, laid).
  DERIVED. THE GIVEN ROWS OF THIS SEAT. 11 by the template 'for every input the law returns true; each argument reads behind the call as it read before'; 0 by the template 'total and deterministic' (their statements: YtkjimfapbjdafaaGreatTotals.lean).
  GIVEN WITH THE SEED: the statements are not yours to turn. If you find one false, say at which input.
  Laid BY PROGRAM, IN A SANDBOX (cutbox-rows.mjs): the forced cells as the released guide's own fill.sh prints them over the translation 477cbfb818345b38… (all of the seat's roots in one cut). By AI agents, Wed Nov 11 2026. No macro, syntax, notation, axiom, sorry.
-/
import Derived.Test.YtkjimfapbjdafaaGreatChecked
import GoSem.Claim
import GoSem.ClaimJoined
import GoSem.ClaimMapViews
import Derived.JoinedTies
import Derived.KernelRfl
namespace Go.Proofs.YtkjimfapbjdafaaGreat
/- THE CELL 'sum', in the pinned program and in every row, IS THE sha256 OF THE DUMP (.gsa) THAT YtkjimfapbjdafaaGreatProg.lean LOADS. Nothing in Lean hashes anything: it is a label: what it is worth is what the hold of that sum in a sandbox is worth. -/
noncomputable def Tryz.pinned : Pinned := { name := "ytkjimfapbjdafaagreat", sum := "477cbfb818345b3867b7748bd3bf764e8abf634270f04467f90992c61571d2dd", checked := Tryz.checked }
namespace Rows
def none {H : Type} : Left H := { results := [], args := [] }

/-- 'laws.FnExactSafeModes': WHATEVER THE INPUT: true; the input reads as it did. -/
def fnExactSafeModesSpec : ChangeSpec := { name := "fnExactSafeModes", fn := fun _ => fun
  | [d1, d2, d3, d4] => { results := [.lit (.bool true)], args := [d1, d2, d3, d4] }
  | _ => none }
def fnExactSafeModesRow : OpenClaim := { program := "ytkjimfapbjdafaagreat", sum := "477cbfb818345b3867b7748bd3bf764e8abf634270f04467f90992c61571d2dd", func := "loop.example/g00832/laws.FnExactSafeModes", spec := "fnExactSafeModes", inPlace := ["slices.overlaps[loop.example/g00832/impl.Half]"], unfollowed := true, recurses := true, apart := false }
def FnExactSafeModesSaid : Prop := fnExactSafeModesRow.holds Tryz.pinned (OpenSpec.ofChange fnExactSafeModesSpec)

/-- ITS FALSE NEIGHBOUR: 'it returns false'. Refute it at one input. -/
def fnExactSafeModesWrong : ChangeSpec := { name := "fnExactSafeModes", fn := fun _ => fun
  | [d1, d2, d3, d4] => { results := [.lit (.bool false)], args := [d1, d2, d3, d4] }
  | _ => none }
def FnExactSafeModesWrongFalsely : Prop := fnExactSafeModesRow.holds Tryz.pinned (OpenSpec.ofChange fnExactSafeModesWrong)

/-- 'laws.FnExactWeakestMode': WHATEVER THE INPUT: true; the input reads as it did. -/
def fnExactWeakestModeSpec : ChangeSpec := { name := "fnExactWeakestMode", fn := fun _ => fun
  | [d1, d2, d3, d4] => { results := [.lit (.bool true)], args := [d1, d2, d3, d4] }
  | _ => none }
def fnExactWeakestModeRow : OpenClaim := { program := "ytkjimfapbjdafaagreat", sum := "477cbfb818345b3867b7748bd3bf764e8abf634270f04467f90992c61571d2dd", func := "loop.example/g00832/laws.FnExactWeakestMode", spec := "fnExactWeakestMode", inPlace := ["slices.overlaps[loop.example/g00832/impl.Half]"], unfollowed := true, recurses := true, apart := false }
def FnExactWeakestModeSaid : Prop := fnExactWeakestModeRow.holds Tryz.pinned (OpenSpec.ofChange fnExactWeakestModeSpec)

/-- ITS FALSE NEIGHBOUR: 'it returns false'. Refute it at one input. -/
def fnExactWeakestModeWrong : ChangeSpec := { name := "fnExactWeakestMode", fn := fun _ => fun
  | [d1, d2, d3, d4] => { results := [.lit (.bool false)], args := [d1, d2, d3, d4] }
  | _ => none }
def FnExactWeakestModeWrongFalsely : Prop := fnExactWeakestModeRow.holds Tryz.pinned (OpenSpec.ofChange fnExactWeakestModeWrong)

/-- 'laws.FnExactWatchNew': WHATEVER THE INPUT: true; the input reads as it did. -/
def fnExactWatchNewSpec : ChangeSpec := { name := "fnExactWatchNew", fn := fun _ => fun
  | [d1, d2] => { results := [.lit (.bool true)], args := [d1, d2] }
  | _ => none }
def fnExactWatchNewRow : OpenClaim := { program := "ytkjimfapbjdafaagreat", sum := "477cbfb818345b3867b7748bd3bf764e8abf634270f04467f90992c61571d2dd", func := "loop.example/g00832/laws.FnExactWatchNew", spec := "fnExactWatchNew", inPlace := ["slices.overlaps[loop.example/g00832/impl.Half]"], unfollowed := true, recurses := true, apart := false }
def FnExactWatchNewSaid : Prop := fnExactWatchNewRow.holds Tryz.pinned (OpenSpec.ofChange fnExactWatchNewSpec)

/-- ITS FALSE NEIGHBOUR: 'it returns false'. Refute it at one input. -/
def fnExactWatchNewWrong : ChangeSpec := { name := "fnExactWatchNew", fn := fun _ => fun
  | [d1, d2] => { results := [.lit (.bool false)], args := [d1, d2] }
  | _ => none }
def FnExactWatchNewWrongFalsely : Prop := fnExactWatchNewRow.holds Tryz.pinned (OpenSpec.ofChange fnExactWatchNewWrong)

/-- 'laws.FnExactPlantRegion': WHATEVER THE INPUT: true; the input reads as it did. -/
def fnExactPlantRegionSpec : ChangeSpec := { name := "fnExactPlantRegion", fn := fun _ => fun
  | [d1, d2] => { results := [.lit (.bool true)], args := [d1, d2] }
  | _ => none }
def fnExactPlantRegionRow : OpenClaim := { program := "ytkjimfapbjdafaagreat", sum := "477cbfb818345b3867b7748bd3bf764e8abf634270f04467f90992c61571d2dd", func := "loop.example/g00832/laws.FnExactPlantRegion", spec := "fnExactPlantRegion", inPlace := ["slices.overlaps[loop.example/g00832/impl.Half]"], unfollowed := true, recurses := true, apart := false }
def FnExactPlantRegionSaid : Prop := fnExactPlantRegionRow.holds Tryz.pinned (OpenSpec.ofChange fnExactPlantRegionSpec)

/-- ITS FALSE NEIGHBOUR: 'it returns false'. Refute it at one input. -/
def fnExactPlantRegionWrong : ChangeSpec := { name := "fnExactPlantRegion", fn := fun _ => fun
  | [d1, d2] => { results := [.lit (.bool false)], args := [d1, d2] }
  | _ => none }
def FnExactPlantRegionWrongFalsely : Prop := fnExactPlantRegionRow.holds Tryz.pinned (OpenSpec.ofChange fnExactPlantRegionWrong)

/-- 'laws.FnExactCellSpan': WHATEVER THE INPUT: true; the input reads as it did. -/
def fnExactCellSpanSpec : ChangeSpec := { name := "fnExactCellSpan", fn := fun _ => fun
  | [d1, d2, d3, d4, d5] => { results := [.lit (.bool true)], args := [d1, d2, d3, d4, d5] }
  | _ => none }
def fnExactCellSpanRow : OpenClaim := { program := "ytkjimfapbjdafaagreat", sum := "477cbfb818345b3867b7748bd3bf764e8abf634270f04467f90992c61571d2dd", func := "loop.example/g00832/laws.FnExactCellSpan", spec := "fnExactCellSpan", inPlace := ["slices.overlaps[loop.example/g00832/impl.Half]"], unfollowed := true, recurses := true, apart := false }
def FnExactCellSpanSaid : Prop := fnExactCellSpanRow.holds Tryz.pinned (OpenSpec.ofChange fnExactCellSpanSpec)

/-- ITS FALSE NEIGHBOUR: 'it returns false'. Refute it at one input. -/
def fnExactCellSpanWrong : ChangeSpec := { name := "fnExactCellSpan", fn := fun _ => fun
  | [d1, d2, d3, d4, d5] => { results := [.lit (.bool false)], args := [d1, d2, d3, d4, d5] }
  | _ => none }
def FnExactCellSpanWrongFalsely : Prop := fnExactCellSpanRow.holds Tryz.pinned (OpenSpec.ofChange fnExactCellSpanWrong)

/-- 'laws.FnExactCheckTable': WHATEVER THE INPUT: true; the input reads as it did. -/
def fnExactCheckTableSpec : ChangeSpec := { name := "fnExactCheckTable", fn := fun _ => fun
  | [d1, d2, d3] => { results := [.lit (.bool true)], args := [d1, d2, d3] }
  | _ => none }
def fnExactCheckTableRow : OpenClaim := { program := "ytkjimfapbjdafaagreat", sum := "477cbfb818345b3867b7748bd3bf764e8abf634270f04467f90992c61571d2dd", func := "loop.example/g00832/laws.FnExactCheckTable", spec := "fnExactCheckTable", inPlace := ["slices.overlaps[loop.example/g00832/impl.Half]"], unfollowed := true, recurses := true, apart := false }
def FnExactCheckTableSaid : Prop := fnExactCheckTableRow.holds Tryz.pinned (OpenSpec.ofChange fnExactCheckTableSpec)

/-- ITS FALSE NEIGHBOUR: 'it returns false'. Refute it at one input. -/
def fnExactCheckTableWrong : ChangeSpec := { name := "fnExactCheckTable", fn := fun _ => fun
  | [d1, d2, d3] => { results := [.lit (.bool false)], args := [d1, d2, d3] }
  | _ => none }
def FnExactCheckTableWrongFalsely : Prop := fnExactCheckTableRow.holds Tryz.pinned (OpenSpec.ofChange fnExactCheckTableWrong)

/-- 'laws.FnExactFillTable': WHATEVER THE INPUT: true; the input reads as it did. -/
def fnExactFillTableSpec : ChangeSpec := { name := "fnExactFillTable", fn := fun _ => fun
  | [d1, d2, d3, d4] => { results := [.lit (.bool true)], args := [d1, d2, d3, d4] }
  | _ => none }
def fnExactFillTableRow : OpenClaim := { program := "ytkjimfapbjdafaagreat", sum := "477cbfb818345b3867b7748bd3bf764e8abf634270f04467f90992c61571d2dd", func := "loop.example/g00832/laws.FnExactFillTable", spec := "fnExactFillTable", inPlace := ["slices.overlaps[loop.example/g00832/impl.Half]"], unfollowed := true, recurses := true, apart := false }
def FnExactFillTableSaid : Prop := fnExactFillTableRow.holds Tryz.pinned (OpenSpec.ofChange fnExactFillTableSpec)

/-- ITS FALSE NEIGHBOUR: 'it returns false'. Refute it at one input. -/
def fnExactFillTableWrong : ChangeSpec := { name := "fnExactFillTable", fn := fun _ => fun
  | [d1, d2, d3, d4] => { results := [.lit (.bool false)], args := [d1, d2, d3, d4] }
  | _ => none }
def FnExactFillTableWrongFalsely : Prop := fnExactFillTableRow.holds Tryz.pinned (OpenSpec.ofChange fnExactFillTableWrong)

/-- 'laws.FnExactJudge': WHATEVER THE INPUT: true; the input reads as it did. -/
def fnExactJudgeSpec : ChangeSpec := { name := "fnExactJudge", fn := fun _ => fun
  | [d1, d2, d3] => { results := [.lit (.bool true)], args := [d1, d2, d3] }
  | _ => none }
def fnExactJudgeRow : OpenClaim := { program := "ytkjimfapbjdafaagreat", sum := "477cbfb818345b3867b7748bd3bf764e8abf634270f04467f90992c61571d2dd", func := "loop.example/g00832/laws.FnExactJudge", spec := "fnExactJudge", inPlace := ["slices.overlaps[loop.example/g00832/impl.Half]"], unfollowed := true, recurses := true, apart := false }
def FnExactJudgeSaid : Prop := fnExactJudgeRow.holds Tryz.pinned (OpenSpec.ofChange fnExactJudgeSpec)

/-- ITS FALSE NEIGHBOUR: 'it returns false'. Refute it at one input. -/
def fnExactJudgeWrong : ChangeSpec := { name := "fnExactJudge", fn := fun _ => fun
  | [d1, d2, d3] => { results := [.lit (.bool false)], args := [d1, d2, d3] }
  | _ => none }
def FnExactJudgeWrongFalsely : Prop := fnExactJudgeRow.holds Tryz.pinned (OpenSpec.ofChange fnExactJudgeWrong)

/-- 'laws.FnExactRunLoop': WHATEVER THE INPUT: true; the input reads as it did. -/
def fnExactRunLoopSpec : ChangeSpec := { name := "fnExactRunLoop", fn := fun _ => fun
  | [d1, d2, d3, d4, d5] => { results := [.lit (.bool true)], args := [d1, d2, d3, d4, d5] }
  | _ => none }
def fnExactRunLoopRow : OpenClaim := { program := "ytkjimfapbjdafaagreat", sum := "477cbfb818345b3867b7748bd3bf764e8abf634270f04467f90992c61571d2dd", func := "loop.example/g00832/laws.FnExactRunLoop", spec := "fnExactRunLoop", inPlace := ["slices.overlaps[loop.example/g00832/impl.Half]"], unfollowed := true, recurses := true, apart := false }
def FnExactRunLoopSaid : Prop := fnExactRunLoopRow.holds Tryz.pinned (OpenSpec.ofChange fnExactRunLoopSpec)

/-- ITS FALSE NEIGHBOUR: 'it returns false'. Refute it at one input. -/
def fnExactRunLoopWrong : ChangeSpec := { name := "fnExactRunLoop", fn := fun _ => fun
  | [d1, d2, d3, d4, d5] => { results := [.lit (.bool false)], args := [d1, d2, d3, d4, d5] }
  | _ => none }
def FnExactRunLoopWrongFalsely : Prop := fnExactRunLoopRow.holds Tryz.pinned (OpenSpec.ofChange fnExactRunLoopWrong)

/-- 'laws.FnExactWatchStep': WHATEVER THE INPUT: true; the input reads as it did. -/
def fnExactWatchStepSpec : ChangeSpec := { name := "fnExactWatchStep", fn := fun _ => fun
  | [d1, d2, d3] => { results := [.lit (.bool true)], args := [d1, d2, d3] }
  | _ => none }
def fnExactWatchStepRow : OpenClaim := { program := "ytkjimfapbjdafaagreat", sum := "477cbfb818345b3867b7748bd3bf764e8abf634270f04467f90992c61571d2dd", func := "loop.example/g00832/laws.FnExactWatchStep", spec := "fnExactWatchStep", inPlace := ["slices.overlaps[loop.example/g00832/impl.Half]"], unfollowed := true, recurses := true, apart := false }
def FnExactWatchStepSaid : Prop := fnExactWatchStepRow.holds Tryz.pinned (OpenSpec.ofChange fnExactWatchStepSpec)

/-- ITS FALSE NEIGHBOUR: 'it returns false'. Refute it at one input. -/
def fnExactWatchStepWrong : ChangeSpec := { name := "fnExactWatchStep", fn := fun _ => fun
  | [d1, d2, d3] => { results := [.lit (.bool false)], args := [d1, d2, d3] }
  | _ => none }
def FnExactWatchStepWrongFalsely : Prop := fnExactWatchStepRow.holds Tryz.pinned (OpenSpec.ofChange fnExactWatchStepWrong)

/-- 'laws.FnExactLowRegions': WHATEVER THE INPUT: true; the input reads as it did. -/
def fnExactLowRegionsSpec : ChangeSpec := { name := "fnExactLowRegions", fn := fun _ => fun
  | [d1, d2, d3] => { results := [.lit (.bool true)], args := [d1, d2, d3] }
  | _ => none }
def fnExactLowRegionsRow : OpenClaim := { program := "ytkjimfapbjdafaagreat", sum := "477cbfb818345b3867b7748bd3bf764e8abf634270f04467f90992c61571d2dd", func := "loop.example/g00832/laws.FnExactLowRegions", spec := "fnExactLowRegions", inPlace := ["slices.overlaps[loop.example/g00832/impl.Half]"], apart := false }
def FnExactLowRegionsSaid : Prop := fnExactLowRegionsRow.holds Tryz.pinned (OpenSpec.ofChange fnExactLowRegionsSpec)

/-- ITS FALSE NEIGHBOUR: 'it returns false'. Refute it at one input. -/
def fnExactLowRegionsWrong : ChangeSpec := { name := "fnExactLowRegions", fn := fun _ => fun
  | [d1, d2, d3] => { results := [.lit (.bool false)], args := [d1, d2, d3] }
  | _ => none }
def FnExactLowRegionsWrongFalsely : Prop := fnExactLowRegionsRow.holds Tryz.pinned (OpenSpec.ofChange fnExactLowRegionsWrong)

/- THE SECOND FORM. 'bulk': how many values and letters a reading holds, each counted each time it is reached (what is shared counts as often as it is met; a slice's spare places count too). A statement '..UptoSaid' is the law's where the arguments, and the package variables that the reading takes, are together of bulk at most 1048576: NARROWER than '..Said'. Prove '..Said' where nothing that the law and all that it calls make is longer than what came in: it says more and counts as full. Else prove '..UptoSaid'. A law counts once. -/
mutual
def uptoBulk {H : Type} : DataW H → Nat
  | .lit (.string bytes) => bytes.length + 1
  | .lit _ => 1
  | .nil => 1
  | .ptr d => uptoBulk d + 1
  | .slice elems spare => uptoBulkAll elems + uptoBulkAll spare + 1
  | .agg parts => uptoBulkAll parts + 1
  | .iface _ d => uptoBulk d + 1
  | .map entries => uptoBulkEntries entries + 1
  | .held _ => 1
def uptoBulkAll {H : Type} : List (DataW H) → Nat
  | [] => 0
  | d :: r => uptoBulk d + uptoBulkAll r
def uptoBulkEntries {H : Type} : List (Lit × DataW H) → Nat
  | [] => 0
  | x :: r => uptoBulkEntry x + uptoBulkEntries r
def uptoBulkEntry {H : Type} : Lit × DataW H → Nat
  | (.string bytes, d) => bytes.length + uptoBulk d + 1
  | (_, d) => uptoBulk d + 1
 end
def uptoSmall : (H : Type) → List (DataW H) → Bool := fun _ ds => decide (uptoBulkAll ds ≤ 1048576)
def OpenSpec.upto (s : _root_.Go.ChangeSpec) : _root_.Go.OpenSpec := { _root_.Go.OpenSpec.ofChange s with cond := some uptoSmall }

/-- 'laws.FnExactSafeModes', WHERE WHAT IT READS IS OF BULK AT MOST 1048576: true; the input reads as it did. -/
def fnExactSafeModesUptoRow : OpenClaim := { program := "ytkjimfapbjdafaagreat", sum := "477cbfb818345b3867b7748bd3bf764e8abf634270f04467f90992c61571d2dd", func := "loop.example/g00832/laws.FnExactSafeModes", spec := "fnExactSafeModes", inPlace := ["slices.overlaps[loop.example/g00832/impl.Half]"], unfollowed := true, recurses := true, apart := false, narrowed := true }
def FnExactSafeModesUptoSaid : Prop := fnExactSafeModesUptoRow.holds Tryz.pinned (OpenSpec.upto fnExactSafeModesSpec)

/-- 'laws.FnExactWeakestMode', WHERE WHAT IT READS IS OF BULK AT MOST 1048576: true; the input reads as it did. -/
def fnExactWeakestModeUptoRow : OpenClaim := { program := "ytkjimfapbjdafaagreat", sum := "477cbfb818345b3867b7748bd3bf764e8abf634270f04467f90992c61571d2dd", func := "loop.example/g00832/laws.FnExactWeakestMode", spec := "fnExactWeakestMode", inPlace := ["slices.overlaps[loop.example/g00832/impl.Half]"], unfollowed := true, recurses := true, apart := false, narrowed := true }
def FnExactWeakestModeUptoSaid : Prop := fnExactWeakestModeUptoRow.holds Tryz.pinned (OpenSpec.upto fnExactWeakestModeSpec)

/-- 'laws.FnExactWatchNew', WHERE WHAT IT READS IS OF BULK AT MOST 1048576: true; the input reads as it did. -/
def fnExactWatchNewUptoRow : OpenClaim := { program := "ytkjimfapbjdafaagreat", sum := "477cbfb818345b3867b7748bd3bf764e8abf634270f04467f90992c61571d2dd", func := "loop.example/g00832/laws.FnExactWatchNew", spec := "fnExactWatchNew", inPlace := ["slices.overlaps[loop.example/g00832/impl.Half]"], unfollowed := true, recurses := true, apart := false, narrowed := true }
def FnExactWatchNewUptoSaid : Prop := fnExactWatchNewUptoRow.holds Tryz.pinned (OpenSpec.upto fnExactWatchNewSpec)

/-- 'laws.FnExactPlantRegion', WHERE WHAT IT READS IS OF BULK AT MOST 1048576: true; the input reads as it did. -/
def fnExactPlantRegionUptoRow : OpenClaim := { program := "ytkjimfapbjdafaagreat", sum := "477cbfb818345b3867b7748bd3bf764e8abf634270f04467f90992c61571d2dd", func := "loop.example/g00832/laws.FnExactPlantRegion", spec := "fnExactPlantRegion", inPlace := ["slices.overlaps[loop.example/g00832/impl.Half]"], unfollowed := true, recurses := true, apart := false, narrowed := true }
def FnExactPlantRegionUptoSaid : Prop := fnExactPlantRegionUptoRow.holds Tryz.pinned (OpenSpec.upto fnExactPlantRegionSpec)

/-- 'laws.FnExactCellSpan', WHERE WHAT IT READS IS OF BULK AT MOST 1048576: true; the input reads as it did. -/
def fnExactCellSpanUptoRow : OpenClaim := { program := "ytkjimfapbjdafaagreat", sum := "477cbfb818345b3867b7748bd3bf764e8abf634270f04467f90992c61571d2dd", func := "loop.example/g00832/laws.FnExactCellSpan", spec := "fnExactCellSpan", inPlace := ["slices.overlaps[loop.example/g00832/impl.Half]"], unfollowed := true, recurses := true, apart := false, narrowed := true }
def FnExactCellSpanUptoSaid : Prop := fnExactCellSpanUptoRow.holds Tryz.pinned (OpenSpec.upto fnExactCellSpanSpec)

/-- 'laws.FnExactCheckTable', WHERE WHAT IT READS IS OF BULK AT MOST 1048576: true; the input reads as it did. -/
def fnExactCheckTableUptoRow : OpenClaim := { program := "ytkjimfapbjdafaagreat", sum := "477cbfb818345b3867b7748bd3bf764e8abf634270f04467f90992c61571d2dd", func := "loop.example/g00832/laws.FnExactCheckTable", spec := "fnExactCheckTable", inPlace := ["slices.overlaps[loop.example/g00832/impl.Half]"], unfollowed := true, recurses := true, apart := false, narrowed := true }
def FnExactCheckTableUptoSaid : Prop := fnExactCheckTableUptoRow.holds Tryz.pinned (OpenSpec.upto fnExactCheckTableSpec)

/-- 'laws.FnExactFillTable', WHERE WHAT IT READS IS OF BULK AT MOST 1048576: true; the input reads as it did. -/
def fnExactFillTableUptoRow : OpenClaim := { program := "ytkjimfapbjdafaagreat", sum := "477cbfb818345b3867b7748bd3bf764e8abf634270f04467f90992c61571d2dd", func := "loop.example/g00832/laws.FnExactFillTable", spec := "fnExactFillTable", inPlace := ["slices.overlaps[loop.example/g00832/impl.Half]"], unfollowed := true, recurses := true, apart := false, narrowed := true }
def FnExactFillTableUptoSaid : Prop := fnExactFillTableUptoRow.holds Tryz.pinned (OpenSpec.upto fnExactFillTableSpec)

/-- 'laws.FnExactJudge', WHERE WHAT IT READS IS OF BULK AT MOST 1048576: true; the input reads as it did. -/
def fnExactJudgeUptoRow : OpenClaim := { program := "ytkjimfapbjdafaagreat", sum := "477cbfb818345b3867b7748bd3bf764e8abf634270f04467f90992c61571d2dd", func := "loop.example/g00832/laws.FnExactJudge", spec := "fnExactJudge", inPlace := ["slices.overlaps[loop.example/g00832/impl.Half]"], unfollowed := true, recurses := true, apart := false, narrowed := true }
def FnExactJudgeUptoSaid : Prop := fnExactJudgeUptoRow.holds Tryz.pinned (OpenSpec.upto fnExactJudgeSpec)

/-- 'laws.FnExactRunLoop', WHERE WHAT IT READS IS OF BULK AT MOST 1048576: true; the input reads as it did. -/
def fnExactRunLoopUptoRow : OpenClaim := { program := "ytkjimfapbjdafaagreat", sum := "477cbfb818345b3867b7748bd3bf764e8abf634270f04467f90992c61571d2dd", func := "loop.example/g00832/laws.FnExactRunLoop", spec := "fnExactRunLoop", inPlace := ["slices.overlaps[loop.example/g00832/impl.Half]"], unfollowed := true, recurses := true, apart := false, narrowed := true }
def FnExactRunLoopUptoSaid : Prop := fnExactRunLoopUptoRow.holds Tryz.pinned (OpenSpec.upto fnExactRunLoopSpec)

/-- 'laws.FnExactWatchStep', WHERE WHAT IT READS IS OF BULK AT MOST 1048576: true; the input reads as it did. -/
def fnExactWatchStepUptoRow : OpenClaim := { program := "ytkjimfapbjdafaagreat", sum := "477cbfb818345b3867b7748bd3bf764e8abf634270f04467f90992c61571d2dd", func := "loop.example/g00832/laws.FnExactWatchStep", spec := "fnExactWatchStep", inPlace := ["slices.overlaps[loop.example/g00832/impl.Half]"], unfollowed := true, recurses := true, apart := false, narrowed := true }
def FnExactWatchStepUptoSaid : Prop := fnExactWatchStepUptoRow.holds Tryz.pinned (OpenSpec.upto fnExactWatchStepSpec)

/-- 'laws.FnExactLowRegions', WHERE WHAT IT READS IS OF BULK AT MOST 1048576: true; the input reads as it did. -/
def fnExactLowRegionsUptoRow : OpenClaim := { program := "ytkjimfapbjdafaagreat", sum := "477cbfb818345b3867b7748bd3bf764e8abf634270f04467f90992c61571d2dd", func := "loop.example/g00832/laws.FnExactLowRegions", spec := "fnExactLowRegions", inPlace := ["slices.overlaps[loop.example/g00832/impl.Half]"], apart := false, narrowed := true }
def FnExactLowRegionsUptoSaid : Prop := fnExactLowRegionsUptoRow.holds Tryz.pinned (OpenSpec.upto fnExactLowRegionsSpec)

end Rows
end Go.Proofs.YtkjimfapbjdafaaGreat
