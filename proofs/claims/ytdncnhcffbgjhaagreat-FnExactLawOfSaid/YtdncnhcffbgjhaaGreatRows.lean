/-
  No cell of these rows narrows 'for every input' (looked for: loops, veiled, ifaces, maps, wideKeys, modest, calm, conditions, laid).
  DERIVED. THE GIVEN ROWS OF THIS SEAT. 8 by the template 'for every input the law returns true; each argument reads behind the call as it read before'; 0 by the template 'total and deterministic' (their statements: YtdncnhcffbgjhaaGreatTotals.lean).
  GIVEN WITH THE SEED: the statements are not yours to turn. If you find one false, say at which input.
  Laid BY PROGRAM, IN A SANDBOX (cutbox-rows.mjs): the forced cells as the released guide's own fill.sh prints them over the translation 91f7b4ec058dd60b… (all of the seat's roots in one cut). By AI agents, Wed Nov 11 2026. No macro, syntax, notation, axiom, sorry.
-/
import Derived.Test.YtdncnhcffbgjhaaGreatChecked
import GoSem.Claim
import GoSem.ClaimJoined
import GoSem.ClaimMapViews
import Derived.JoinedTies
import Derived.KernelRfl
namespace Go.Proofs.YtdncnhcffbgjhaaGreat
/- THE CELL 'sum', in the pinned program and in every row, IS THE sha256 OF THE DUMP (.gsa) THAT YtdncnhcffbgjhaaGreatProg.lean LOADS. Nothing in Lean hashes anything: it is a label: what it is worth is what the hold of that sum in a sandbox is worth. -/
noncomputable def Tryz.pinned : Pinned := { name := "ytdncnhcffbgjhaagreat", sum := "91f7b4ec058dd60b610a5ba1a358396d38dff491e9b07862114c7ba200c986e1", checked := Tryz.checked }
namespace Rows
def none {H : Type} : Left H := { results := [], args := [] }

/-- 'laws.FnExactLawOf': WHATEVER THE INPUT: true; the input reads as it did. -/
def fnExactLawOfSpec : ChangeSpec := { name := "fnExactLawOf", fn := fun _ => fun
  | [d1, d2] => { results := [.lit (.bool true)], args := [d1, d2] }
  | _ => none }
def fnExactLawOfRow : OpenClaim := { program := "ytdncnhcffbgjhaagreat", sum := "91f7b4ec058dd60b610a5ba1a358396d38dff491e9b07862114c7ba200c986e1", func := "loop.example/g00832/laws.FnExactLawOf", spec := "fnExactLawOf", inPlace := ["slices.overlaps[loop.example/g00832/impl.Half]"], unfollowed := true, recurses := true, apart := false }
def FnExactLawOfSaid : Prop := fnExactLawOfRow.holds Tryz.pinned (OpenSpec.ofChange fnExactLawOfSpec)

/-- ITS FALSE NEIGHBOUR: 'it returns false'. Refute it at one input. -/
def fnExactLawOfWrong : ChangeSpec := { name := "fnExactLawOf", fn := fun _ => fun
  | [d1, d2] => { results := [.lit (.bool false)], args := [d1, d2] }
  | _ => none }
def FnExactLawOfWrongFalsely : Prop := fnExactLawOfRow.holds Tryz.pinned (OpenSpec.ofChange fnExactLawOfWrong)

/-- 'laws.FnExactAdmitDrift': WHATEVER THE INPUT: true; the input reads as it did. -/
def fnExactAdmitDriftSpec : ChangeSpec := { name := "fnExactAdmitDrift", fn := fun _ => fun
  | [d1, d2, d3, d4, d5] => { results := [.lit (.bool true)], args := [d1, d2, d3, d4, d5] }
  | _ => none }
def fnExactAdmitDriftRow : OpenClaim := { program := "ytdncnhcffbgjhaagreat", sum := "91f7b4ec058dd60b610a5ba1a358396d38dff491e9b07862114c7ba200c986e1", func := "loop.example/g00832/laws.FnExactAdmitDrift", spec := "fnExactAdmitDrift", inPlace := ["slices.overlaps[loop.example/g00832/impl.Half]"], unfollowed := true, recurses := true, apart := false }
def FnExactAdmitDriftSaid : Prop := fnExactAdmitDriftRow.holds Tryz.pinned (OpenSpec.ofChange fnExactAdmitDriftSpec)

/-- ITS FALSE NEIGHBOUR: 'it returns false'. Refute it at one input. -/
def fnExactAdmitDriftWrong : ChangeSpec := { name := "fnExactAdmitDrift", fn := fun _ => fun
  | [d1, d2, d3, d4, d5] => { results := [.lit (.bool false)], args := [d1, d2, d3, d4, d5] }
  | _ => none }
def FnExactAdmitDriftWrongFalsely : Prop := fnExactAdmitDriftRow.holds Tryz.pinned (OpenSpec.ofChange fnExactAdmitDriftWrong)

/-- 'laws.FnExactLargestDrift': WHATEVER THE INPUT: true; the input reads as it did. -/
def fnExactLargestDriftSpec : ChangeSpec := { name := "fnExactLargestDrift", fn := fun _ => fun
  | [d1, d2, d3, d4] => { results := [.lit (.bool true)], args := [d1, d2, d3, d4] }
  | _ => none }
def fnExactLargestDriftRow : OpenClaim := { program := "ytdncnhcffbgjhaagreat", sum := "91f7b4ec058dd60b610a5ba1a358396d38dff491e9b07862114c7ba200c986e1", func := "loop.example/g00832/laws.FnExactLargestDrift", spec := "fnExactLargestDrift", inPlace := ["slices.overlaps[loop.example/g00832/impl.Half]"], unfollowed := true, recurses := true, apart := false }
def FnExactLargestDriftSaid : Prop := fnExactLargestDriftRow.holds Tryz.pinned (OpenSpec.ofChange fnExactLargestDriftSpec)

/-- ITS FALSE NEIGHBOUR: 'it returns false'. Refute it at one input. -/
def fnExactLargestDriftWrong : ChangeSpec := { name := "fnExactLargestDrift", fn := fun _ => fun
  | [d1, d2, d3, d4] => { results := [.lit (.bool false)], args := [d1, d2, d3, d4] }
  | _ => none }
def FnExactLargestDriftWrongFalsely : Prop := fnExactLargestDriftRow.holds Tryz.pinned (OpenSpec.ofChange fnExactLargestDriftWrong)

/-- 'laws.FnExactWatchOk': WHATEVER THE INPUT: true; the input reads as it did. -/
def fnExactWatchOkSpec : ChangeSpec := { name := "fnExactWatchOk", fn := fun _ => fun
  | [d] => { results := [.lit (.bool true)], args := [d] }
  | _ => none }
def fnExactWatchOkRow : OpenClaim := { program := "ytdncnhcffbgjhaagreat", sum := "91f7b4ec058dd60b610a5ba1a358396d38dff491e9b07862114c7ba200c986e1", func := "loop.example/g00832/laws.FnExactWatchOk", spec := "fnExactWatchOk", inPlace := ["slices.overlaps[loop.example/g00832/impl.Half]"], unfollowed := true, recurses := true, apart := false }
def FnExactWatchOkSaid : Prop := fnExactWatchOkRow.holds Tryz.pinned (OpenSpec.ofChange fnExactWatchOkSpec)

/-- ITS FALSE NEIGHBOUR: 'it returns false'. Refute it at one input. -/
def fnExactWatchOkWrong : ChangeSpec := { name := "fnExactWatchOk", fn := fun _ => fun
  | [d] => { results := [.lit (.bool false)], args := [d] }
  | _ => none }
def FnExactWatchOkWrongFalsely : Prop := fnExactWatchOkRow.holds Tryz.pinned (OpenSpec.ofChange fnExactWatchOkWrong)

/-- 'laws.FnDriftRooms': WHATEVER THE INPUT: true; the input reads as it did. -/
def fnDriftRoomsSpec : ChangeSpec := { name := "fnDriftRooms", fn := fun _ => fun
  | [d] => { results := [.lit (.bool true)], args := [d] }
  | _ => none }
def fnDriftRoomsRow : OpenClaim := { program := "ytdncnhcffbgjhaagreat", sum := "91f7b4ec058dd60b610a5ba1a358396d38dff491e9b07862114c7ba200c986e1", func := "loop.example/g00832/laws.FnDriftRooms", spec := "fnDriftRooms", inPlace := ["slices.overlaps[loop.example/g00832/impl.Half]"], unfollowed := true, recurses := true, apart := false }
def FnDriftRoomsSaid : Prop := fnDriftRoomsRow.holds Tryz.pinned (OpenSpec.ofChange fnDriftRoomsSpec)

/-- ITS FALSE NEIGHBOUR: 'it returns false'. Refute it at one input. -/
def fnDriftRoomsWrong : ChangeSpec := { name := "fnDriftRooms", fn := fun _ => fun
  | [d] => { results := [.lit (.bool false)], args := [d] }
  | _ => none }
def FnDriftRoomsWrongFalsely : Prop := fnDriftRoomsRow.holds Tryz.pinned (OpenSpec.ofChange fnDriftRoomsWrong)

/-- 'laws.FnDrifts': WHATEVER THE INPUT: true; the input reads as it did. -/
def fnDriftsSpec : ChangeSpec := { name := "fnDrifts", fn := fun _ => fun
  | [d] => { results := [.lit (.bool true)], args := [d] }
  | _ => none }
def fnDriftsRow : OpenClaim := { program := "ytdncnhcffbgjhaagreat", sum := "91f7b4ec058dd60b610a5ba1a358396d38dff491e9b07862114c7ba200c986e1", func := "loop.example/g00832/laws.FnDrifts", spec := "fnDrifts", inPlace := ["slices.overlaps[loop.example/g00832/impl.Half]"], unfollowed := true, recurses := true, apart := false }
def FnDriftsSaid : Prop := fnDriftsRow.holds Tryz.pinned (OpenSpec.ofChange fnDriftsSpec)

/-- ITS FALSE NEIGHBOUR: 'it returns false'. Refute it at one input. -/
def fnDriftsWrong : ChangeSpec := { name := "fnDrifts", fn := fun _ => fun
  | [d] => { results := [.lit (.bool false)], args := [d] }
  | _ => none }
def FnDriftsWrongFalsely : Prop := fnDriftsRow.holds Tryz.pinned (OpenSpec.ofChange fnDriftsWrong)

/-- 'laws.FnExactStepLoop': WHATEVER THE INPUT: true; the input reads as it did. -/
def fnExactStepLoopSpec : ChangeSpec := { name := "fnExactStepLoop", fn := fun _ => fun
  | [d1, d2, d3, d4, d5] => { results := [.lit (.bool true)], args := [d1, d2, d3, d4, d5] }
  | _ => none }
def fnExactStepLoopRow : OpenClaim := { program := "ytdncnhcffbgjhaagreat", sum := "91f7b4ec058dd60b610a5ba1a358396d38dff491e9b07862114c7ba200c986e1", func := "loop.example/g00832/laws.FnExactStepLoop", spec := "fnExactStepLoop", inPlace := ["slices.overlaps[loop.example/g00832/impl.Half]"], unfollowed := true, recurses := true, apart := false }
def FnExactStepLoopSaid : Prop := fnExactStepLoopRow.holds Tryz.pinned (OpenSpec.ofChange fnExactStepLoopSpec)

/-- ITS FALSE NEIGHBOUR: 'it returns false'. Refute it at one input. -/
def fnExactStepLoopWrong : ChangeSpec := { name := "fnExactStepLoop", fn := fun _ => fun
  | [d1, d2, d3, d4, d5] => { results := [.lit (.bool false)], args := [d1, d2, d3, d4, d5] }
  | _ => none }
def FnExactStepLoopWrongFalsely : Prop := fnExactStepLoopRow.holds Tryz.pinned (OpenSpec.ofChange fnExactStepLoopWrong)

/-- 'laws.FnExactPlantKeep': WHATEVER THE INPUT: true; the input reads as it did. -/
def fnExactPlantKeepSpec : ChangeSpec := { name := "fnExactPlantKeep", fn := fun _ => fun
  | [d1, d2, d3] => { results := [.lit (.bool true)], args := [d1, d2, d3] }
  | _ => none }
def fnExactPlantKeepRow : OpenClaim := { program := "ytdncnhcffbgjhaagreat", sum := "91f7b4ec058dd60b610a5ba1a358396d38dff491e9b07862114c7ba200c986e1", func := "loop.example/g00832/laws.FnExactPlantKeep", spec := "fnExactPlantKeep", inPlace := ["slices.overlaps[loop.example/g00832/impl.Half]"], unfollowed := true, recurses := true, apart := false }
def FnExactPlantKeepSaid : Prop := fnExactPlantKeepRow.holds Tryz.pinned (OpenSpec.ofChange fnExactPlantKeepSpec)

/-- ITS FALSE NEIGHBOUR: 'it returns false'. Refute it at one input. -/
def fnExactPlantKeepWrong : ChangeSpec := { name := "fnExactPlantKeep", fn := fun _ => fun
  | [d1, d2, d3] => { results := [.lit (.bool false)], args := [d1, d2, d3] }
  | _ => none }
def FnExactPlantKeepWrongFalsely : Prop := fnExactPlantKeepRow.holds Tryz.pinned (OpenSpec.ofChange fnExactPlantKeepWrong)

/- THE SECOND FORM. 'bulk': how many values and letters a reading holds, each counted each time it is reached (what is shared counts as often as it is met; a slice's spare places count too). A statement '..UptoSaid' is the law's where the arguments, and the package variables that the reading takes, are together of bulk at most 1048576: NARROWER than '..Said'. Prove '..Said' where nothing that the law and all that it calls make is longer than what came in: it says more and counts as full. Else prove '..UptoSaid'. A law counts once. -/
mutual
def uptoBulk {H : Type} : DataW H → Nat
  | .lit (.string bytes) => bytes.length + 1
  | .lit _ => 1
  | .nil => 1
  | .ptr d => uptoBulk d + 1
  | .slice elems spare => uptoBulkAll elems + uptoBulkAll spare + 1
  | .agg parts => uptoBulkAll parts + 1
  | .iface _ d => uptoBulk d + 1
  | .map entries => uptoBulkEntries entries + 1
  | .held _ => 1
def uptoBulkAll {H : Type} : List (DataW H) → Nat
  | [] => 0
  | d :: r => uptoBulk d + uptoBulkAll r
def uptoBulkEntries {H : Type} : List (Lit × DataW H) → Nat
  | [] => 0
  | x :: r => uptoBulkEntry x + uptoBulkEntries r
def uptoBulkEntry {H : Type} : Lit × DataW H → Nat
  | (.string bytes, d) => bytes.length + uptoBulk d + 1
  | (_, d) => uptoBulk d + 1
 end
def uptoSmall : (H : Type) → List (DataW H) → Bool := fun _ ds => decide (uptoBulkAll ds ≤ 1048576)
def OpenSpec.upto (s : _root_.Go.ChangeSpec) : _root_.Go.OpenSpec := { _root_.Go.OpenSpec.ofChange s with cond := some uptoSmall }

/-- 'laws.FnExactLawOf', WHERE WHAT IT READS IS OF BULK AT MOST 1048576: true; the input reads as it did. -/
def fnExactLawOfUptoRow : OpenClaim := { program := "ytdncnhcffbgjhaagreat", sum := "91f7b4ec058dd60b610a5ba1a358396d38dff491e9b07862114c7ba200c986e1", func := "loop.example/g00832/laws.FnExactLawOf", spec := "fnExactLawOf", inPlace := ["slices.overlaps[loop.example/g00832/impl.Half]"], unfollowed := true, recurses := true, apart := false, narrowed := true }
def FnExactLawOfUptoSaid : Prop := fnExactLawOfUptoRow.holds Tryz.pinned (OpenSpec.upto fnExactLawOfSpec)

/-- 'laws.FnExactAdmitDrift', WHERE WHAT IT READS IS OF BULK AT MOST 1048576: true; the input reads as it did. -/
def fnExactAdmitDriftUptoRow : OpenClaim := { program := "ytdncnhcffbgjhaagreat", sum := "91f7b4ec058dd60b610a5ba1a358396d38dff491e9b07862114c7ba200c986e1", func := "loop.example/g00832/laws.FnExactAdmitDrift", spec := "fnExactAdmitDrift", inPlace := ["slices.overlaps[loop.example/g00832/impl.Half]"], unfollowed := true, recurses := true, apart := false, narrowed := true }
def FnExactAdmitDriftUptoSaid : Prop := fnExactAdmitDriftUptoRow.holds Tryz.pinned (OpenSpec.upto fnExactAdmitDriftSpec)

/-- 'laws.FnExactLargestDrift', WHERE WHAT IT READS IS OF BULK AT MOST 1048576: true; the input reads as it did. -/
def fnExactLargestDriftUptoRow : OpenClaim := { program := "ytdncnhcffbgjhaagreat", sum := "91f7b4ec058dd60b610a5ba1a358396d38dff491e9b07862114c7ba200c986e1", func := "loop.example/g00832/laws.FnExactLargestDrift", spec := "fnExactLargestDrift", inPlace := ["slices.overlaps[loop.example/g00832/impl.Half]"], unfollowed := true, recurses := true, apart := false, narrowed := true }
def FnExactLargestDriftUptoSaid : Prop := fnExactLargestDriftUptoRow.holds Tryz.pinned (OpenSpec.upto fnExactLargestDriftSpec)

/-- 'laws.FnExactWatchOk', WHERE WHAT IT READS IS OF BULK AT MOST 1048576: true; the input reads as it did. -/
def fnExactWatchOkUptoRow : OpenClaim := { program := "ytdncnhcffbgjhaagreat", sum := "91f7b4ec058dd60b610a5ba1a358396d38dff491e9b07862114c7ba200c986e1", func := "loop.example/g00832/laws.FnExactWatchOk", spec := "fnExactWatchOk", inPlace := ["slices.overlaps[loop.example/g00832/impl.Half]"], unfollowed := true, recurses := true, apart := false, narrowed := true }
def FnExactWatchOkUptoSaid : Prop := fnExactWatchOkUptoRow.holds Tryz.pinned (OpenSpec.upto fnExactWatchOkSpec)

/-- 'laws.FnDriftRooms', WHERE WHAT IT READS IS OF BULK AT MOST 1048576: true; the input reads as it did. -/
def fnDriftRoomsUptoRow : OpenClaim := { program := "ytdncnhcffbgjhaagreat", sum := "91f7b4ec058dd60b610a5ba1a358396d38dff491e9b07862114c7ba200c986e1", func := "loop.example/g00832/laws.FnDriftRooms", spec := "fnDriftRooms", inPlace := ["slices.overlaps[loop.example/g00832/impl.Half]"], unfollowed := true, recurses := true, apart := false, narrowed := true }
def FnDriftRoomsUptoSaid : Prop := fnDriftRoomsUptoRow.holds Tryz.pinned (OpenSpec.upto fnDriftRoomsSpec)

/-- 'laws.FnDrifts', WHERE WHAT IT READS IS OF BULK AT MOST 1048576: true; the input reads as it did. -/
def fnDriftsUptoRow : OpenClaim := { program := "ytdncnhcffbgjhaagreat", sum := "91f7b4ec058dd60b610a5ba1a358396d38dff491e9b07862114c7ba200c986e1", func := "loop.example/g00832/laws.FnDrifts", spec := "fnDrifts", inPlace := ["slices.overlaps[loop.example/g00832/impl.Half]"], unfollowed := true, recurses := true, apart := false, narrowed := true }
def FnDriftsUptoSaid : Prop := fnDriftsUptoRow.holds Tryz.pinned (OpenSpec.upto fnDriftsSpec)

/-- 'laws.FnExactStepLoop', WHERE WHAT IT READS IS OF BULK AT MOST 1048576: true; the input reads as it did. -/
def fnExactStepLoopUptoRow : OpenClaim := { program := "ytdncnhcffbgjhaagreat", sum := "91f7b4ec058dd60b610a5ba1a358396d38dff491e9b07862114c7ba200c986e1", func := "loop.example/g00832/laws.FnExactStepLoop", spec := "fnExactStepLoop", inPlace := ["slices.overlaps[loop.example/g00832/impl.Half]"], unfollowed := true, recurses := true, apart := false, narrowed := true }
def FnExactStepLoopUptoSaid : Prop := fnExactStepLoopUptoRow.holds Tryz.pinned (OpenSpec.upto fnExactStepLoopSpec)

/-- 'laws.FnExactPlantKeep', WHERE WHAT IT READS IS OF BULK AT MOST 1048576: true; the input reads as it did. -/
def fnExactPlantKeepUptoRow : OpenClaim := { program := "ytdncnhcffbgjhaagreat", sum := "91f7b4ec058dd60b610a5ba1a358396d38dff491e9b07862114c7ba200c986e1", func := "loop.example/g00832/laws.FnExactPlantKeep", spec := "fnExactPlantKeep", inPlace := ["slices.overlaps[loop.example/g00832/impl.Half]"], unfollowed := true, recurses := true, apart := false, narrowed := true }
def FnExactPlantKeepUptoSaid : Prop := fnExactPlantKeepUptoRow.holds Tryz.pinned (OpenSpec.upto fnExactPlantKeepSpec)

end Rows
end Go.Proofs.YtdncnhcffbgjhaaGreat
