/-
  No cell of these rows narrows 'for every input' (looked for: loops, veiled, ifaces, maps, wideKeys, modest, calm, conditions, laid).
  DERIVED. THE GIVEN ROWS OF THIS SEAT. 13 by the template 'for every input the law returns true; each argument reads behind the call as it read before'; 0 by the template 'total and deterministic' (their statements: YtelkcmchokajaaaTotals.lean).
  GIVEN WITH THE SEED: the statements are not yours to turn. If you find one false, say at which input.
  Laid BY PROGRAM, IN A SANDBOX (cutbox-rows.mjs): the forced cells as the released guide's own fill.sh prints them over the translation 1537ad9c54db1548… (all of the seat's roots in one cut). By AI agents, Wed Nov 11 2026. No macro, syntax, notation, axiom, sorry.
-/
import Derived.Test.YtelkcmchokajaaaChecked
import GoSem.Claim
import GoSem.ClaimJoined
import GoSem.ClaimMapViews
import Derived.JoinedTies
import Derived.KernelRfl
namespace Go.Proofs.Ytelkcmchokajaaa
/- THE CELL 'sum', in the pinned program and in every row, IS THE sha256 OF THE DUMP (.gsa) THAT YtelkcmchokajaaaProg.lean LOADS. Nothing in Lean hashes anything: it is a label: what it is worth is what the hold of that sum in a sandbox is worth. -/
noncomputable def Try.pinned : Pinned := { name := "ytelkcmchokajaaa", sum := "1537ad9c54db1548ca6e63def89b06d261e2bcf3b688d4d014f299888d1dd9d5", checked := Try.checked }
namespace Rows
def none {H : Type} : Left H := { results := [], args := [] }

/-- 'laws.FnExactCellOf': WHATEVER THE INPUT: true; the input reads as it did. -/
def fnExactCellOfSpec : ChangeSpec := { name := "fnExactCellOf", fn := fun _ => fun
  | [d1, d2] => { results := [.lit (.bool true)], args := [d1, d2] }
  | _ => none }
def fnExactCellOfRow : OpenClaim := { program := "ytelkcmchokajaaa", sum := "1537ad9c54db1548ca6e63def89b06d261e2bcf3b688d4d014f299888d1dd9d5", func := "loop.example/g00832/laws.FnExactCellOf", spec := "fnExactCellOf", apart := false }
def FnExactCellOfSaid : Prop := fnExactCellOfRow.holds Try.pinned (OpenSpec.ofChange fnExactCellOfSpec)

/-- ITS FALSE NEIGHBOUR: 'it returns false'. Refute it at one input. -/
def fnExactCellOfWrong : ChangeSpec := { name := "fnExactCellOf", fn := fun _ => fun
  | [d1, d2] => { results := [.lit (.bool false)], args := [d1, d2] }
  | _ => none }
def FnExactCellOfWrongFalsely : Prop := fnExactCellOfRow.holds Try.pinned (OpenSpec.ofChange fnExactCellOfWrong)

/-- 'laws.FnExactCellCorners': WHATEVER THE INPUT: true; the input reads as it did. -/
def fnExactCellCornersSpec : ChangeSpec := { name := "fnExactCellCorners", fn := fun _ => fun
  | [d1, d2, d3] => { results := [.lit (.bool true)], args := [d1, d2, d3] }
  | _ => none }
def fnExactCellCornersRow : OpenClaim := { program := "ytelkcmchokajaaa", sum := "1537ad9c54db1548ca6e63def89b06d261e2bcf3b688d4d014f299888d1dd9d5", func := "loop.example/g00832/laws.FnExactCellCorners", spec := "fnExactCellCorners", apart := false }
def FnExactCellCornersSaid : Prop := fnExactCellCornersRow.holds Try.pinned (OpenSpec.ofChange fnExactCellCornersSpec)

/-- ITS FALSE NEIGHBOUR: 'it returns false'. Refute it at one input. -/
def fnExactCellCornersWrong : ChangeSpec := { name := "fnExactCellCorners", fn := fun _ => fun
  | [d1, d2, d3] => { results := [.lit (.bool false)], args := [d1, d2, d3] }
  | _ => none }
def FnExactCellCornersWrongFalsely : Prop := fnExactCellCornersRow.holds Try.pinned (OpenSpec.ofChange fnExactCellCornersWrong)

/-- 'laws.FnExactCountVerdicts': WHATEVER THE INPUT: true; the input reads as it did. -/
def fnExactCountVerdictsSpec : ChangeSpec := { name := "fnExactCountVerdicts", fn := fun _ => fun
  | [d1, d2] => { results := [.lit (.bool true)], args := [d1, d2] }
  | _ => none }
def fnExactCountVerdictsRow : OpenClaim := { program := "ytelkcmchokajaaa", sum := "1537ad9c54db1548ca6e63def89b06d261e2bcf3b688d4d014f299888d1dd9d5", func := "loop.example/g00832/laws.FnExactCountVerdicts", spec := "fnExactCountVerdicts", apart := false }
def FnExactCountVerdictsSaid : Prop := fnExactCountVerdictsRow.holds Try.pinned (OpenSpec.ofChange fnExactCountVerdictsSpec)

/-- ITS FALSE NEIGHBOUR: 'it returns false'. Refute it at one input. -/
def fnExactCountVerdictsWrong : ChangeSpec := { name := "fnExactCountVerdicts", fn := fun _ => fun
  | [d1, d2] => { results := [.lit (.bool false)], args := [d1, d2] }
  | _ => none }
def FnExactCountVerdictsWrongFalsely : Prop := fnExactCountVerdictsRow.holds Try.pinned (OpenSpec.ofChange fnExactCountVerdictsWrong)

/-- 'laws.FnExactFirstOver': WHATEVER THE INPUT: true; the input reads as it did. -/
def fnExactFirstOverSpec : ChangeSpec := { name := "fnExactFirstOver", fn := fun _ => fun
  | [d] => { results := [.lit (.bool true)], args := [d] }
  | _ => none }
def fnExactFirstOverRow : OpenClaim := { program := "ytelkcmchokajaaa", sum := "1537ad9c54db1548ca6e63def89b06d261e2bcf3b688d4d014f299888d1dd9d5", func := "loop.example/g00832/laws.FnExactFirstOver", spec := "fnExactFirstOver", unfollowed := true, recurses := true, apart := false }
def FnExactFirstOverSaid : Prop := fnExactFirstOverRow.holds Try.pinned (OpenSpec.ofChange fnExactFirstOverSpec)

/-- ITS FALSE NEIGHBOUR: 'it returns false'. Refute it at one input. -/
def fnExactFirstOverWrong : ChangeSpec := { name := "fnExactFirstOver", fn := fun _ => fun
  | [d] => { results := [.lit (.bool false)], args := [d] }
  | _ => none }
def FnExactFirstOverWrongFalsely : Prop := fnExactFirstOverRow.holds Try.pinned (OpenSpec.ofChange fnExactFirstOverWrong)

/-- 'laws.FnExactInputAt': WHATEVER THE INPUT: true; the input reads as it did. -/
def fnExactInputAtSpec : ChangeSpec := { name := "fnExactInputAt", fn := fun _ => fun
  | [d1, d2] => { results := [.lit (.bool true)], args := [d1, d2] }
  | _ => none }
def fnExactInputAtRow : OpenClaim := { program := "ytelkcmchokajaaa", sum := "1537ad9c54db1548ca6e63def89b06d261e2bcf3b688d4d014f299888d1dd9d5", func := "loop.example/g00832/laws.FnExactInputAt", spec := "fnExactInputAt", apart := false }
def FnExactInputAtSaid : Prop := fnExactInputAtRow.holds Try.pinned (OpenSpec.ofChange fnExactInputAtSpec)

/-- ITS FALSE NEIGHBOUR: 'it returns false'. Refute it at one input. -/
def fnExactInputAtWrong : ChangeSpec := { name := "fnExactInputAt", fn := fun _ => fun
  | [d1, d2] => { results := [.lit (.bool false)], args := [d1, d2] }
  | _ => none }
def FnExactInputAtWrongFalsely : Prop := fnExactInputAtRow.holds Try.pinned (OpenSpec.ofChange fnExactInputAtWrong)

/-- 'laws.FnExactIsConsistent': WHATEVER THE INPUT: true; the input reads as it did. -/
def fnExactIsConsistentSpec : ChangeSpec := { name := "fnExactIsConsistent", fn := fun _ => fun
  | [d1, d2, d3] => { results := [.lit (.bool true)], args := [d1, d2, d3] }
  | _ => none }
def fnExactIsConsistentRow : OpenClaim := { program := "ytelkcmchokajaaa", sum := "1537ad9c54db1548ca6e63def89b06d261e2bcf3b688d4d014f299888d1dd9d5", func := "loop.example/g00832/laws.FnExactIsConsistent", spec := "fnExactIsConsistent", apart := false }
def FnExactIsConsistentSaid : Prop := fnExactIsConsistentRow.holds Try.pinned (OpenSpec.ofChange fnExactIsConsistentSpec)

/-- ITS FALSE NEIGHBOUR: 'it returns false'. Refute it at one input. -/
def fnExactIsConsistentWrong : ChangeSpec := { name := "fnExactIsConsistent", fn := fun _ => fun
  | [d1, d2, d3] => { results := [.lit (.bool false)], args := [d1, d2, d3] }
  | _ => none }
def FnExactIsConsistentWrongFalsely : Prop := fnExactIsConsistentRow.holds Try.pinned (OpenSpec.ofChange fnExactIsConsistentWrong)

/-- 'laws.FnExactSameWatch': WHATEVER THE INPUT: true; the input reads as it did. -/
def fnExactSameWatchSpec : ChangeSpec := { name := "fnExactSameWatch", fn := fun _ => fun
  | [d1, d2] => { results := [.lit (.bool true)], args := [d1, d2] }
  | _ => none }
def fnExactSameWatchRow : OpenClaim := { program := "ytelkcmchokajaaa", sum := "1537ad9c54db1548ca6e63def89b06d261e2bcf3b688d4d014f299888d1dd9d5", func := "loop.example/g00832/laws.FnExactSameWatch", spec := "fnExactSameWatch", apart := false }
def FnExactSameWatchSaid : Prop := fnExactSameWatchRow.holds Try.pinned (OpenSpec.ofChange fnExactSameWatchSpec)

/-- ITS FALSE NEIGHBOUR: 'it returns false'. Refute it at one input. -/
def fnExactSameWatchWrong : ChangeSpec := { name := "fnExactSameWatch", fn := fun _ => fun
  | [d1, d2] => { results := [.lit (.bool false)], args := [d1, d2] }
  | _ => none }
def FnExactSameWatchWrongFalsely : Prop := fnExactSameWatchRow.holds Try.pinned (OpenSpec.ofChange fnExactSameWatchWrong)

/-- 'laws.FnExactLeastError': WHATEVER THE INPUT: true; the input reads as it did. -/
def fnExactLeastErrorSpec : ChangeSpec := { name := "fnExactLeastError", fn := fun _ => fun
  | [d1, d2] => { results := [.lit (.bool true)], args := [d1, d2] }
  | _ => none }
def fnExactLeastErrorRow : OpenClaim := { program := "ytelkcmchokajaaa", sum := "1537ad9c54db1548ca6e63def89b06d261e2bcf3b688d4d014f299888d1dd9d5", func := "loop.example/g00832/laws.FnExactLeastError", spec := "fnExactLeastError", apart := false }
def FnExactLeastErrorSaid : Prop := fnExactLeastErrorRow.holds Try.pinned (OpenSpec.ofChange fnExactLeastErrorSpec)

/-- ITS FALSE NEIGHBOUR: 'it returns false'. Refute it at one input. -/
def fnExactLeastErrorWrong : ChangeSpec := { name := "fnExactLeastError", fn := fun _ => fun
  | [d1, d2] => { results := [.lit (.bool false)], args := [d1, d2] }
  | _ => none }
def FnExactLeastErrorWrongFalsely : Prop := fnExactLeastErrorRow.holds Try.pinned (OpenSpec.ofChange fnExactLeastErrorWrong)

/-- 'laws.FnExactMostDistant': WHATEVER THE INPUT: true; the input reads as it did. -/
def fnExactMostDistantSpec : ChangeSpec := { name := "fnExactMostDistant", fn := fun _ => fun
  | [d1, d2, d3] => { results := [.lit (.bool true)], args := [d1, d2, d3] }
  | _ => none }
def fnExactMostDistantRow : OpenClaim := { program := "ytelkcmchokajaaa", sum := "1537ad9c54db1548ca6e63def89b06d261e2bcf3b688d4d014f299888d1dd9d5", func := "loop.example/g00832/laws.FnExactMostDistant", spec := "fnExactMostDistant", apart := false }
def FnExactMostDistantSaid : Prop := fnExactMostDistantRow.holds Try.pinned (OpenSpec.ofChange fnExactMostDistantSpec)

/-- ITS FALSE NEIGHBOUR: 'it returns false'. Refute it at one input. -/
def fnExactMostDistantWrong : ChangeSpec := { name := "fnExactMostDistant", fn := fun _ => fun
  | [d1, d2, d3] => { results := [.lit (.bool false)], args := [d1, d2, d3] }
  | _ => none }
def FnExactMostDistantWrongFalsely : Prop := fnExactMostDistantRow.holds Try.pinned (OpenSpec.ofChange fnExactMostDistantWrong)

/-- 'laws.FnExactUsedInputs': WHATEVER THE INPUT: true; the input reads as it did. -/
def fnExactUsedInputsSpec : ChangeSpec := { name := "fnExactUsedInputs", fn := fun _ => fun
  | [d] => { results := [.lit (.bool true)], args := [d] }
  | _ => none }
def fnExactUsedInputsRow : OpenClaim := { program := "ytelkcmchokajaaa", sum := "1537ad9c54db1548ca6e63def89b06d261e2bcf3b688d4d014f299888d1dd9d5", func := "loop.example/g00832/laws.FnExactUsedInputs", spec := "fnExactUsedInputs", apart := false }
def FnExactUsedInputsSaid : Prop := fnExactUsedInputsRow.holds Try.pinned (OpenSpec.ofChange fnExactUsedInputsSpec)

/-- ITS FALSE NEIGHBOUR: 'it returns false'. Refute it at one input. -/
def fnExactUsedInputsWrong : ChangeSpec := { name := "fnExactUsedInputs", fn := fun _ => fun
  | [d] => { results := [.lit (.bool false)], args := [d] }
  | _ => none }
def FnExactUsedInputsWrongFalsely : Prop := fnExactUsedInputsRow.holds Try.pinned (OpenSpec.ofChange fnExactUsedInputsWrong)

/-- 'laws.FnExactActiveHigh': WHATEVER THE INPUT: true; the input reads as it did. -/
def fnExactActiveHighSpec : ChangeSpec := { name := "fnExactActiveHigh", fn := fun _ => fun
  | [d1, d2] => { results := [.lit (.bool true)], args := [d1, d2] }
  | _ => none }
def fnExactActiveHighRow : OpenClaim := { program := "ytelkcmchokajaaa", sum := "1537ad9c54db1548ca6e63def89b06d261e2bcf3b688d4d014f299888d1dd9d5", func := "loop.example/g00832/laws.FnExactActiveHigh", spec := "fnExactActiveHigh", apart := false }
def FnExactActiveHighSaid : Prop := fnExactActiveHighRow.holds Try.pinned (OpenSpec.ofChange fnExactActiveHighSpec)

/-- ITS FALSE NEIGHBOUR: 'it returns false'. Refute it at one input. -/
def fnExactActiveHighWrong : ChangeSpec := { name := "fnExactActiveHigh", fn := fun _ => fun
  | [d1, d2] => { results := [.lit (.bool false)], args := [d1, d2] }
  | _ => none }
def FnExactActiveHighWrongFalsely : Prop := fnExactActiveHighRow.holds Try.pinned (OpenSpec.ofChange fnExactActiveHighWrong)

/-- 'laws.FnExactActiveLow': WHATEVER THE INPUT: true; the input reads as it did. -/
def fnExactActiveLowSpec : ChangeSpec := { name := "fnExactActiveLow", fn := fun _ => fun
  | [d1, d2] => { results := [.lit (.bool true)], args := [d1, d2] }
  | _ => none }
def fnExactActiveLowRow : OpenClaim := { program := "ytelkcmchokajaaa", sum := "1537ad9c54db1548ca6e63def89b06d261e2bcf3b688d4d014f299888d1dd9d5", func := "loop.example/g00832/laws.FnExactActiveLow", spec := "fnExactActiveLow", apart := false }
def FnExactActiveLowSaid : Prop := fnExactActiveLowRow.holds Try.pinned (OpenSpec.ofChange fnExactActiveLowSpec)

/-- ITS FALSE NEIGHBOUR: 'it returns false'. Refute it at one input. -/
def fnExactActiveLowWrong : ChangeSpec := { name := "fnExactActiveLow", fn := fun _ => fun
  | [d1, d2] => { results := [.lit (.bool false)], args := [d1, d2] }
  | _ => none }
def FnExactActiveLowWrongFalsely : Prop := fnExactActiveLowRow.holds Try.pinned (OpenSpec.ofChange fnExactActiveLowWrong)

/-- 'laws.FnExactLawAt': WHATEVER THE INPUT: true; the input reads as it did. -/
def fnExactLawAtSpec : ChangeSpec := { name := "fnExactLawAt", fn := fun _ => fun
  | [d1, d2] => { results := [.lit (.bool true)], args := [d1, d2] }
  | _ => none }
def fnExactLawAtRow : OpenClaim := { program := "ytelkcmchokajaaa", sum := "1537ad9c54db1548ca6e63def89b06d261e2bcf3b688d4d014f299888d1dd9d5", func := "loop.example/g00832/laws.FnExactLawAt", spec := "fnExactLawAt", apart := false }
def FnExactLawAtSaid : Prop := fnExactLawAtRow.holds Try.pinned (OpenSpec.ofChange fnExactLawAtSpec)

/-- ITS FALSE NEIGHBOUR: 'it returns false'. Refute it at one input. -/
def fnExactLawAtWrong : ChangeSpec := { name := "fnExactLawAt", fn := fun _ => fun
  | [d1, d2] => { results := [.lit (.bool false)], args := [d1, d2] }
  | _ => none }
def FnExactLawAtWrongFalsely : Prop := fnExactLawAtRow.holds Try.pinned (OpenSpec.ofChange fnExactLawAtWrong)

/- THE SECOND FORM. 'bulk': how many values and letters a reading holds, each counted each time it is reached (what is shared counts as often as it is met; a slice's spare places count too). A statement '..UptoSaid' is the law's where the arguments, and the package variables that the reading takes, are together of bulk at most 1048576: NARROWER than '..Said'. Prove '..Said' where nothing that the law and all that it calls make is longer than what came in: it says more and counts as full. Else prove '..UptoSaid'. A law counts once. -/
mutual
def uptoBulk {H : Type} : DataW H → Nat
  | .lit (.string bytes) => bytes.length + 1
  | .lit _ => 1
  | .nil => 1
  | .ptr d => uptoBulk d + 1
  | .slice elems spare => uptoBulkAll elems + uptoBulkAll spare + 1
  | .agg parts => uptoBulkAll parts + 1
  | .iface _ d => uptoBulk d + 1
  | .map entries => uptoBulkEntries entries + 1
  | .held _ => 1
def uptoBulkAll {H : Type} : List (DataW H) → Nat
  | [] => 0
  | d :: r => uptoBulk d + uptoBulkAll r
def uptoBulkEntries {H : Type} : List (Lit × DataW H) → Nat
  | [] => 0
  | x :: r => uptoBulkEntry x + uptoBulkEntries r
def uptoBulkEntry {H : Type} : Lit × DataW H → Nat
  | (.string bytes, d) => bytes.length + uptoBulk d + 1
  | (_, d) => uptoBulk d + 1
 end
def uptoSmall : (H : Type) → List (DataW H) → Bool := fun _ ds => decide (uptoBulkAll ds ≤ 1048576)
def OpenSpec.upto (s : _root_.Go.ChangeSpec) : _root_.Go.OpenSpec := { _root_.Go.OpenSpec.ofChange s with cond := some uptoSmall }

/-- 'laws.FnExactCellOf', WHERE WHAT IT READS IS OF BULK AT MOST 1048576: true; the input reads as it did. -/
def fnExactCellOfUptoRow : OpenClaim := { program := "ytelkcmchokajaaa", sum := "1537ad9c54db1548ca6e63def89b06d261e2bcf3b688d4d014f299888d1dd9d5", func := "loop.example/g00832/laws.FnExactCellOf", spec := "fnExactCellOf", apart := false, narrowed := true }
def FnExactCellOfUptoSaid : Prop := fnExactCellOfUptoRow.holds Try.pinned (OpenSpec.upto fnExactCellOfSpec)

/-- 'laws.FnExactCellCorners', WHERE WHAT IT READS IS OF BULK AT MOST 1048576: true; the input reads as it did. -/
def fnExactCellCornersUptoRow : OpenClaim := { program := "ytelkcmchokajaaa", sum := "1537ad9c54db1548ca6e63def89b06d261e2bcf3b688d4d014f299888d1dd9d5", func := "loop.example/g00832/laws.FnExactCellCorners", spec := "fnExactCellCorners", apart := false, narrowed := true }
def FnExactCellCornersUptoSaid : Prop := fnExactCellCornersUptoRow.holds Try.pinned (OpenSpec.upto fnExactCellCornersSpec)

/-- 'laws.FnExactCountVerdicts', WHERE WHAT IT READS IS OF BULK AT MOST 1048576: true; the input reads as it did. -/
def fnExactCountVerdictsUptoRow : OpenClaim := { program := "ytelkcmchokajaaa", sum := "1537ad9c54db1548ca6e63def89b06d261e2bcf3b688d4d014f299888d1dd9d5", func := "loop.example/g00832/laws.FnExactCountVerdicts", spec := "fnExactCountVerdicts", apart := false, narrowed := true }
def FnExactCountVerdictsUptoSaid : Prop := fnExactCountVerdictsUptoRow.holds Try.pinned (OpenSpec.upto fnExactCountVerdictsSpec)

/-- 'laws.FnExactFirstOver', WHERE WHAT IT READS IS OF BULK AT MOST 1048576: true; the input reads as it did. -/
def fnExactFirstOverUptoRow : OpenClaim := { program := "ytelkcmchokajaaa", sum := "1537ad9c54db1548ca6e63def89b06d261e2bcf3b688d4d014f299888d1dd9d5", func := "loop.example/g00832/laws.FnExactFirstOver", spec := "fnExactFirstOver", unfollowed := true, recurses := true, apart := false, narrowed := true }
def FnExactFirstOverUptoSaid : Prop := fnExactFirstOverUptoRow.holds Try.pinned (OpenSpec.upto fnExactFirstOverSpec)

/-- 'laws.FnExactInputAt', WHERE WHAT IT READS IS OF BULK AT MOST 1048576: true; the input reads as it did. -/
def fnExactInputAtUptoRow : OpenClaim := { program := "ytelkcmchokajaaa", sum := "1537ad9c54db1548ca6e63def89b06d261e2bcf3b688d4d014f299888d1dd9d5", func := "loop.example/g00832/laws.FnExactInputAt", spec := "fnExactInputAt", apart := false, narrowed := true }
def FnExactInputAtUptoSaid : Prop := fnExactInputAtUptoRow.holds Try.pinned (OpenSpec.upto fnExactInputAtSpec)

/-- 'laws.FnExactIsConsistent', WHERE WHAT IT READS IS OF BULK AT MOST 1048576: true; the input reads as it did. -/
def fnExactIsConsistentUptoRow : OpenClaim := { program := "ytelkcmchokajaaa", sum := "1537ad9c54db1548ca6e63def89b06d261e2bcf3b688d4d014f299888d1dd9d5", func := "loop.example/g00832/laws.FnExactIsConsistent", spec := "fnExactIsConsistent", apart := false, narrowed := true }
def FnExactIsConsistentUptoSaid : Prop := fnExactIsConsistentUptoRow.holds Try.pinned (OpenSpec.upto fnExactIsConsistentSpec)

/-- 'laws.FnExactSameWatch', WHERE WHAT IT READS IS OF BULK AT MOST 1048576: true; the input reads as it did. -/
def fnExactSameWatchUptoRow : OpenClaim := { program := "ytelkcmchokajaaa", sum := "1537ad9c54db1548ca6e63def89b06d261e2bcf3b688d4d014f299888d1dd9d5", func := "loop.example/g00832/laws.FnExactSameWatch", spec := "fnExactSameWatch", apart := false, narrowed := true }
def FnExactSameWatchUptoSaid : Prop := fnExactSameWatchUptoRow.holds Try.pinned (OpenSpec.upto fnExactSameWatchSpec)

/-- 'laws.FnExactLeastError', WHERE WHAT IT READS IS OF BULK AT MOST 1048576: true; the input reads as it did. -/
def fnExactLeastErrorUptoRow : OpenClaim := { program := "ytelkcmchokajaaa", sum := "1537ad9c54db1548ca6e63def89b06d261e2bcf3b688d4d014f299888d1dd9d5", func := "loop.example/g00832/laws.FnExactLeastError", spec := "fnExactLeastError", apart := false, narrowed := true }
def FnExactLeastErrorUptoSaid : Prop := fnExactLeastErrorUptoRow.holds Try.pinned (OpenSpec.upto fnExactLeastErrorSpec)

/-- 'laws.FnExactMostDistant', WHERE WHAT IT READS IS OF BULK AT MOST 1048576: true; the input reads as it did. -/
def fnExactMostDistantUptoRow : OpenClaim := { program := "ytelkcmchokajaaa", sum := "1537ad9c54db1548ca6e63def89b06d261e2bcf3b688d4d014f299888d1dd9d5", func := "loop.example/g00832/laws.FnExactMostDistant", spec := "fnExactMostDistant", apart := false, narrowed := true }
def FnExactMostDistantUptoSaid : Prop := fnExactMostDistantUptoRow.holds Try.pinned (OpenSpec.upto fnExactMostDistantSpec)

/-- 'laws.FnExactUsedInputs', WHERE WHAT IT READS IS OF BULK AT MOST 1048576: true; the input reads as it did. -/
def fnExactUsedInputsUptoRow : OpenClaim := { program := "ytelkcmchokajaaa", sum := "1537ad9c54db1548ca6e63def89b06d261e2bcf3b688d4d014f299888d1dd9d5", func := "loop.example/g00832/laws.FnExactUsedInputs", spec := "fnExactUsedInputs", apart := false, narrowed := true }
def FnExactUsedInputsUptoSaid : Prop := fnExactUsedInputsUptoRow.holds Try.pinned (OpenSpec.upto fnExactUsedInputsSpec)

/-- 'laws.FnExactActiveHigh', WHERE WHAT IT READS IS OF BULK AT MOST 1048576: true; the input reads as it did. -/
def fnExactActiveHighUptoRow : OpenClaim := { program := "ytelkcmchokajaaa", sum := "1537ad9c54db1548ca6e63def89b06d261e2bcf3b688d4d014f299888d1dd9d5", func := "loop.example/g00832/laws.FnExactActiveHigh", spec := "fnExactActiveHigh", apart := false, narrowed := true }
def FnExactActiveHighUptoSaid : Prop := fnExactActiveHighUptoRow.holds Try.pinned (OpenSpec.upto fnExactActiveHighSpec)

/-- 'laws.FnExactActiveLow', WHERE WHAT IT READS IS OF BULK AT MOST 1048576: true; the input reads as it did. -/
def fnExactActiveLowUptoRow : OpenClaim := { program := "ytelkcmchokajaaa", sum := "1537ad9c54db1548ca6e63def89b06d261e2bcf3b688d4d014f299888d1dd9d5", func := "loop.example/g00832/laws.FnExactActiveLow", spec := "fnExactActiveLow", apart := false, narrowed := true }
def FnExactActiveLowUptoSaid : Prop := fnExactActiveLowUptoRow.holds Try.pinned (OpenSpec.upto fnExactActiveLowSpec)

/-- 'laws.FnExactLawAt', WHERE WHAT IT READS IS OF BULK AT MOST 1048576: true; the input reads as it did. -/
def fnExactLawAtUptoRow : OpenClaim := { program := "ytelkcmchokajaaa", sum := "1537ad9c54db1548ca6e63def89b06d261e2bcf3b688d4d014f299888d1dd9d5", func := "loop.example/g00832/laws.FnExactLawAt", spec := "fnExactLawAt", apart := false, narrowed := true }
def FnExactLawAtUptoSaid : Prop := fnExactLawAtUptoRow.holds Try.pinned (OpenSpec.upto fnExactLawAtSpec)

end Rows
end Go.Proofs.Ytelkcmchokajaaa
