/-
  No cell of these rows narrows 'for every input' (looked for: loops, veiled, ifaces, maps, wideKeys, modest, calm, conditions, laid).
  DERIVED. THE GIVEN ROWS OF THIS SEAT. 11 by the template 'for every input the law returns true; each argument reads behind the call as it read before'; 0 by the template 'total and deterministic' (their statements: YtglidkabkkifnaaTotals.lean).
  GIVEN WITH THE SEED: the statements are not yours to turn. If you find one false, say at which input.
  Laid BY PROGRAM, IN A SANDBOX (cutbox-rows.mjs): the forced cells as the released guide's own fill.sh prints them over the translation c95d5edf74736d59… (all of the seat's roots in one cut). By AI agents, Wed Nov 11 2026. No macro, syntax, notation, axiom, sorry.
-/
import Derived.Test.YtglidkabkkifnaaChecked
import GoSem.Claim
import GoSem.ClaimJoined
import GoSem.ClaimMapViews
import Derived.JoinedTies
import Derived.KernelRfl
namespace Go.Proofs.Ytglidkabkkifnaa
/- THE CELL 'sum', in the pinned program and in every row, IS THE sha256 OF THE DUMP (.gsa) THAT YtglidkabkkifnaaProg.lean LOADS. Nothing in Lean hashes anything: it is a label: what it is worth is what the hold of that sum in a sandbox is worth. -/
noncomputable def Try.pinned : Pinned := { name := "ytglidkabkkifnaa", sum := "c95d5edf74736d5932badf37c8b9e76e4378ebb90a076efaec2122d17f330ba5", checked := Try.checked }
namespace Rows
def none {H : Type} : Left H := { results := [], args := [] }

/-- 'laws.FnExactHoldNames': WHATEVER THE INPUT: true; the input reads as it did. -/
def fnExactHoldNamesSpec : ChangeSpec := { name := "fnExactHoldNames", fn := fun _ => fun
  | [d] => { results := [.lit (.bool true)], args := [d] }
  | _ => none }
def fnExactHoldNamesRow : OpenClaim := { program := "ytglidkabkkifnaa", sum := "c95d5edf74736d5932badf37c8b9e76e4378ebb90a076efaec2122d17f330ba5", func := "loop.example/g00906/laws.FnExactHoldNames", spec := "fnExactHoldNames", inPlace := ["internal/abi.NoEscape", "internal/bytealg.MakeNoZero"], apart := false }
def FnExactHoldNamesSaid : Prop := fnExactHoldNamesRow.holds Try.pinned (OpenSpec.ofChange fnExactHoldNamesSpec)

/-- ITS FALSE NEIGHBOUR: 'it returns false'. Refute it at one input. -/
def fnExactHoldNamesWrong : ChangeSpec := { name := "fnExactHoldNames", fn := fun _ => fun
  | [d] => { results := [.lit (.bool false)], args := [d] }
  | _ => none }
def FnExactHoldNamesWrongFalsely : Prop := fnExactHoldNamesRow.holds Try.pinned (OpenSpec.ofChange fnExactHoldNamesWrong)

/-- 'laws.FnHolds': WHATEVER THE INPUT: true; the input reads as it did. -/
def fnHoldsSpec : ChangeSpec := { name := "fnHolds", fn := fun _ => fun
  | [d] => { results := [.lit (.bool true)], args := [d] }
  | _ => none }
def fnHoldsRow : OpenClaim := { program := "ytglidkabkkifnaa", sum := "c95d5edf74736d5932badf37c8b9e76e4378ebb90a076efaec2122d17f330ba5", func := "loop.example/g00906/laws.FnHolds", spec := "fnHolds", inPlace := ["internal/abi.NoEscape", "internal/bytealg.MakeNoZero"], recurses := true, apart := false }
def FnHoldsSaid : Prop := fnHoldsRow.holds Try.pinned (OpenSpec.ofChange fnHoldsSpec)

/-- ITS FALSE NEIGHBOUR: 'it returns false'. Refute it at one input. -/
def fnHoldsWrong : ChangeSpec := { name := "fnHolds", fn := fun _ => fun
  | [d] => { results := [.lit (.bool false)], args := [d] }
  | _ => none }
def FnHoldsWrongFalsely : Prop := fnHoldsRow.holds Try.pinned (OpenSpec.ofChange fnHoldsWrong)

/-- 'laws.FnExactIsValidFile': WHATEVER THE INPUT: true; the input reads as it did. -/
def fnExactIsValidFileSpec : ChangeSpec := { name := "fnExactIsValidFile", fn := fun _ => fun
  | [d] => { results := [.lit (.bool true)], args := [d] }
  | _ => none }
def fnExactIsValidFileRow : OpenClaim := { program := "ytglidkabkkifnaa", sum := "c95d5edf74736d5932badf37c8b9e76e4378ebb90a076efaec2122d17f330ba5", func := "loop.example/g00906/laws.FnExactIsValidFile", spec := "fnExactIsValidFile", apart := false }
def FnExactIsValidFileSaid : Prop := fnExactIsValidFileRow.holds Try.pinned (OpenSpec.ofChange fnExactIsValidFileSpec)

/-- ITS FALSE NEIGHBOUR: 'it returns false'. Refute it at one input. -/
def fnExactIsValidFileWrong : ChangeSpec := { name := "fnExactIsValidFile", fn := fun _ => fun
  | [d] => { results := [.lit (.bool false)], args := [d] }
  | _ => none }
def FnExactIsValidFileWrongFalsely : Prop := fnExactIsValidFileRow.holds Try.pinned (OpenSpec.ofChange fnExactIsValidFileWrong)

/-- 'laws.FnExactFirstConflict': WHATEVER THE INPUT: true; the input reads as it did. -/
def fnExactFirstConflictSpec : ChangeSpec := { name := "fnExactFirstConflict", fn := fun _ => fun
  | [d] => { results := [.lit (.bool true)], args := [d] }
  | _ => none }
def fnExactFirstConflictRow : OpenClaim := { program := "ytglidkabkkifnaa", sum := "c95d5edf74736d5932badf37c8b9e76e4378ebb90a076efaec2122d17f330ba5", func := "loop.example/g00906/laws.FnExactFirstConflict", spec := "fnExactFirstConflict", apart := false }
def FnExactFirstConflictSaid : Prop := fnExactFirstConflictRow.holds Try.pinned (OpenSpec.ofChange fnExactFirstConflictSpec)

/-- ITS FALSE NEIGHBOUR: 'it returns false'. Refute it at one input. -/
def fnExactFirstConflictWrong : ChangeSpec := { name := "fnExactFirstConflict", fn := fun _ => fun
  | [d] => { results := [.lit (.bool false)], args := [d] }
  | _ => none }
def FnExactFirstConflictWrongFalsely : Prop := fnExactFirstConflictRow.holds Try.pinned (OpenSpec.ofChange fnExactFirstConflictWrong)

/-- 'laws.FnExactHoldsOn': WHATEVER THE INPUT: true; the input reads as it did. -/
def fnExactHoldsOnSpec : ChangeSpec := { name := "fnExactHoldsOn", fn := fun _ => fun
  | [d1, d2, d3] => { results := [.lit (.bool true)], args := [d1, d2, d3] }
  | _ => none }
def fnExactHoldsOnRow : OpenClaim := { program := "ytglidkabkkifnaa", sum := "c95d5edf74736d5932badf37c8b9e76e4378ebb90a076efaec2122d17f330ba5", func := "loop.example/g00906/laws.FnExactHoldsOn", spec := "fnExactHoldsOn", apart := false }
def FnExactHoldsOnSaid : Prop := fnExactHoldsOnRow.holds Try.pinned (OpenSpec.ofChange fnExactHoldsOnSpec)

/-- ITS FALSE NEIGHBOUR: 'it returns false'. Refute it at one input. -/
def fnExactHoldsOnWrong : ChangeSpec := { name := "fnExactHoldsOn", fn := fun _ => fun
  | [d1, d2, d3] => { results := [.lit (.bool false)], args := [d1, d2, d3] }
  | _ => none }
def FnExactHoldsOnWrongFalsely : Prop := fnExactHoldsOnRow.holds Try.pinned (OpenSpec.ofChange fnExactHoldsOnWrong)

/-- 'laws.FnExactBusiestHold': WHATEVER THE INPUT: true; the input reads as it did. -/
def fnExactBusiestHoldSpec : ChangeSpec := { name := "fnExactBusiestHold", fn := fun _ => fun
  | [d] => { results := [.lit (.bool true)], args := [d] }
  | _ => none }
def fnExactBusiestHoldRow : OpenClaim := { program := "ytglidkabkkifnaa", sum := "c95d5edf74736d5932badf37c8b9e76e4378ebb90a076efaec2122d17f330ba5", func := "loop.example/g00906/laws.FnExactBusiestHold", spec := "fnExactBusiestHold", apart := false }
def FnExactBusiestHoldSaid : Prop := fnExactBusiestHoldRow.holds Try.pinned (OpenSpec.ofChange fnExactBusiestHoldSpec)

/-- ITS FALSE NEIGHBOUR: 'it returns false'. Refute it at one input. -/
def fnExactBusiestHoldWrong : ChangeSpec := { name := "fnExactBusiestHold", fn := fun _ => fun
  | [d] => { results := [.lit (.bool false)], args := [d] }
  | _ => none }
def FnExactBusiestHoldWrongFalsely : Prop := fnExactBusiestHoldRow.holds Try.pinned (OpenSpec.ofChange fnExactBusiestHoldWrong)

/-- 'laws.FnExactAddEntry': WHATEVER THE INPUT: true; the input reads as it did. -/
def fnExactAddEntrySpec : ChangeSpec := { name := "fnExactAddEntry", fn := fun _ => fun
  | [d1, d2] => { results := [.lit (.bool true)], args := [d1, d2] }
  | _ => none }
def fnExactAddEntryRow : OpenClaim := { program := "ytglidkabkkifnaa", sum := "c95d5edf74736d5932badf37c8b9e76e4378ebb90a076efaec2122d17f330ba5", func := "loop.example/g00906/laws.FnExactAddEntry", spec := "fnExactAddEntry", apart := false }
def FnExactAddEntrySaid : Prop := fnExactAddEntryRow.holds Try.pinned (OpenSpec.ofChange fnExactAddEntrySpec)

/-- ITS FALSE NEIGHBOUR: 'it returns false'. Refute it at one input. -/
def fnExactAddEntryWrong : ChangeSpec := { name := "fnExactAddEntry", fn := fun _ => fun
  | [d1, d2] => { results := [.lit (.bool false)], args := [d1, d2] }
  | _ => none }
def FnExactAddEntryWrongFalsely : Prop := fnExactAddEntryRow.holds Try.pinned (OpenSpec.ofChange fnExactAddEntryWrong)

/-- 'laws.FnExactHeldHours': WHATEVER THE INPUT: true; the input reads as it did. -/
def fnExactHeldHoursSpec : ChangeSpec := { name := "fnExactHeldHours", fn := fun _ => fun
  | [d1, d2, d3, d4] => { results := [.lit (.bool true)], args := [d1, d2, d3, d4] }
  | _ => none }
def fnExactHeldHoursRow : OpenClaim := { program := "ytglidkabkkifnaa", sum := "c95d5edf74736d5932badf37c8b9e76e4378ebb90a076efaec2122d17f330ba5", func := "loop.example/g00906/laws.FnExactHeldHours", spec := "fnExactHeldHours", apart := false }
def FnExactHeldHoursSaid : Prop := fnExactHeldHoursRow.holds Try.pinned (OpenSpec.ofChange fnExactHeldHoursSpec)

/-- ITS FALSE NEIGHBOUR: 'it returns false'. Refute it at one input. -/
def fnExactHeldHoursWrong : ChangeSpec := { name := "fnExactHeldHours", fn := fun _ => fun
  | [d1, d2, d3, d4] => { results := [.lit (.bool false)], args := [d1, d2, d3, d4] }
  | _ => none }
def FnExactHeldHoursWrongFalsely : Prop := fnExactHeldHoursRow.holds Try.pinned (OpenSpec.ofChange fnExactHeldHoursWrong)

/-- 'laws.FnExactReleaseAll': WHATEVER THE INPUT: true; the input reads as it did. -/
def fnExactReleaseAllSpec : ChangeSpec := { name := "fnExactReleaseAll", fn := fun _ => fun
  | [d1, d2, d3] => { results := [.lit (.bool true)], args := [d1, d2, d3] }
  | _ => none }
def fnExactReleaseAllRow : OpenClaim := { program := "ytglidkabkkifnaa", sum := "c95d5edf74736d5932badf37c8b9e76e4378ebb90a076efaec2122d17f330ba5", func := "loop.example/g00906/laws.FnExactReleaseAll", spec := "fnExactReleaseAll", apart := false }
def FnExactReleaseAllSaid : Prop := fnExactReleaseAllRow.holds Try.pinned (OpenSpec.ofChange fnExactReleaseAllSpec)

/-- ITS FALSE NEIGHBOUR: 'it returns false'. Refute it at one input. -/
def fnExactReleaseAllWrong : ChangeSpec := { name := "fnExactReleaseAll", fn := fun _ => fun
  | [d1, d2, d3] => { results := [.lit (.bool false)], args := [d1, d2, d3] }
  | _ => none }
def FnExactReleaseAllWrongFalsely : Prop := fnExactReleaseAllRow.holds Try.pinned (OpenSpec.ofChange fnExactReleaseAllWrong)

/-- 'laws.FnFiles': WHATEVER THE INPUT: true; the input reads as it did. -/
def fnFilesSpec : ChangeSpec := { name := "fnFiles", fn := fun _ => fun
  | [d] => { results := [.lit (.bool true)], args := [d] }
  | _ => none }
def fnFilesRow : OpenClaim := { program := "ytglidkabkkifnaa", sum := "c95d5edf74736d5932badf37c8b9e76e4378ebb90a076efaec2122d17f330ba5", func := "loop.example/g00906/laws.FnFiles", spec := "fnFiles", apart := false }
def FnFilesSaid : Prop := fnFilesRow.holds Try.pinned (OpenSpec.ofChange fnFilesSpec)

/-- ITS FALSE NEIGHBOUR: 'it returns false'. Refute it at one input. -/
def fnFilesWrong : ChangeSpec := { name := "fnFiles", fn := fun _ => fun
  | [d] => { results := [.lit (.bool false)], args := [d] }
  | _ => none }
def FnFilesWrongFalsely : Prop := fnFilesRow.holds Try.pinned (OpenSpec.ofChange fnFilesWrong)

/-- 'laws.FnExactHeldContainers': WHATEVER THE INPUT: true; the input reads as it did. -/
def fnExactHeldContainersSpec : ChangeSpec := { name := "fnExactHeldContainers", fn := fun _ => fun
  | [d1, d2] => { results := [.lit (.bool true)], args := [d1, d2] }
  | _ => none }
def fnExactHeldContainersRow : OpenClaim := { program := "ytglidkabkkifnaa", sum := "c95d5edf74736d5932badf37c8b9e76e4378ebb90a076efaec2122d17f330ba5", func := "loop.example/g00906/laws.FnExactHeldContainers", spec := "fnExactHeldContainers", recurses := true, apart := false }
def FnExactHeldContainersSaid : Prop := fnExactHeldContainersRow.holds Try.pinned (OpenSpec.ofChange fnExactHeldContainersSpec)

/-- ITS FALSE NEIGHBOUR: 'it returns false'. Refute it at one input. -/
def fnExactHeldContainersWrong : ChangeSpec := { name := "fnExactHeldContainers", fn := fun _ => fun
  | [d1, d2] => { results := [.lit (.bool false)], args := [d1, d2] }
  | _ => none }
def FnExactHeldContainersWrongFalsely : Prop := fnExactHeldContainersRow.holds Try.pinned (OpenSpec.ofChange fnExactHeldContainersWrong)

/- THE SECOND FORM. 'bulk': how many values and letters a reading holds, each counted each time it is reached (what is shared counts as often as it is met; a slice's spare places count too). A statement '..UptoSaid' is the law's where the arguments, and the package variables that the reading takes, are together of bulk at most 1048576: NARROWER than '..Said'. Prove '..Said' where nothing that the law and all that it calls make is longer than what came in: it says more and counts as full. Else prove '..UptoSaid'. A law counts once. -/
mutual
def uptoBulk {H : Type} : DataW H → Nat
  | .lit (.string bytes) => bytes.length + 1
  | .lit _ => 1
  | .nil => 1
  | .ptr d => uptoBulk d + 1
  | .slice elems spare => uptoBulkAll elems + uptoBulkAll spare + 1
  | .agg parts => uptoBulkAll parts + 1
  | .iface _ d => uptoBulk d + 1
  | .map entries => uptoBulkEntries entries + 1
  | .held _ => 1
def uptoBulkAll {H : Type} : List (DataW H) → Nat
  | [] => 0
  | d :: r => uptoBulk d + uptoBulkAll r
def uptoBulkEntries {H : Type} : List (Lit × DataW H) → Nat
  | [] => 0
  | x :: r => uptoBulkEntry x + uptoBulkEntries r
def uptoBulkEntry {H : Type} : Lit × DataW H → Nat
  | (.string bytes, d) => bytes.length + uptoBulk d + 1
  | (_, d) => uptoBulk d + 1
 end
def uptoSmall : (H : Type) → List (DataW H) → Bool := fun _ ds => decide (uptoBulkAll ds ≤ 1048576)
def OpenSpec.upto (s : _root_.Go.ChangeSpec) : _root_.Go.OpenSpec := { _root_.Go.OpenSpec.ofChange s with cond := some uptoSmall }

/-- 'laws.FnExactHoldNames', WHERE WHAT IT READS IS OF BULK AT MOST 1048576: true; the input reads as it did. -/
def fnExactHoldNamesUptoRow : OpenClaim := { program := "ytglidkabkkifnaa", sum := "c95d5edf74736d5932badf37c8b9e76e4378ebb90a076efaec2122d17f330ba5", func := "loop.example/g00906/laws.FnExactHoldNames", spec := "fnExactHoldNames", inPlace := ["internal/abi.NoEscape", "internal/bytealg.MakeNoZero"], apart := false, narrowed := true }
def FnExactHoldNamesUptoSaid : Prop := fnExactHoldNamesUptoRow.holds Try.pinned (OpenSpec.upto fnExactHoldNamesSpec)

/-- 'laws.FnHolds', WHERE WHAT IT READS IS OF BULK AT MOST 1048576: true; the input reads as it did. -/
def fnHoldsUptoRow : OpenClaim := { program := "ytglidkabkkifnaa", sum := "c95d5edf74736d5932badf37c8b9e76e4378ebb90a076efaec2122d17f330ba5", func := "loop.example/g00906/laws.FnHolds", spec := "fnHolds", inPlace := ["internal/abi.NoEscape", "internal/bytealg.MakeNoZero"], recurses := true, apart := false, narrowed := true }
def FnHoldsUptoSaid : Prop := fnHoldsUptoRow.holds Try.pinned (OpenSpec.upto fnHoldsSpec)

/-- 'laws.FnExactIsValidFile', WHERE WHAT IT READS IS OF BULK AT MOST 1048576: true; the input reads as it did. -/
def fnExactIsValidFileUptoRow : OpenClaim := { program := "ytglidkabkkifnaa", sum := "c95d5edf74736d5932badf37c8b9e76e4378ebb90a076efaec2122d17f330ba5", func := "loop.example/g00906/laws.FnExactIsValidFile", spec := "fnExactIsValidFile", apart := false, narrowed := true }
def FnExactIsValidFileUptoSaid : Prop := fnExactIsValidFileUptoRow.holds Try.pinned (OpenSpec.upto fnExactIsValidFileSpec)

/-- 'laws.FnExactFirstConflict', WHERE WHAT IT READS IS OF BULK AT MOST 1048576: true; the input reads as it did. -/
def fnExactFirstConflictUptoRow : OpenClaim := { program := "ytglidkabkkifnaa", sum := "c95d5edf74736d5932badf37c8b9e76e4378ebb90a076efaec2122d17f330ba5", func := "loop.example/g00906/laws.FnExactFirstConflict", spec := "fnExactFirstConflict", apart := false, narrowed := true }
def FnExactFirstConflictUptoSaid : Prop := fnExactFirstConflictUptoRow.holds Try.pinned (OpenSpec.upto fnExactFirstConflictSpec)

/-- 'laws.FnExactHoldsOn', WHERE WHAT IT READS IS OF BULK AT MOST 1048576: true; the input reads as it did. -/
def fnExactHoldsOnUptoRow : OpenClaim := { program := "ytglidkabkkifnaa", sum := "c95d5edf74736d5932badf37c8b9e76e4378ebb90a076efaec2122d17f330ba5", func := "loop.example/g00906/laws.FnExactHoldsOn", spec := "fnExactHoldsOn", apart := false, narrowed := true }
def FnExactHoldsOnUptoSaid : Prop := fnExactHoldsOnUptoRow.holds Try.pinned (OpenSpec.upto fnExactHoldsOnSpec)

/-- 'laws.FnExactBusiestHold', WHERE WHAT IT READS IS OF BULK AT MOST 1048576: true; the input reads as it did. -/
def fnExactBusiestHoldUptoRow : OpenClaim := { program := "ytglidkabkkifnaa", sum := "c95d5edf74736d5932badf37c8b9e76e4378ebb90a076efaec2122d17f330ba5", func := "loop.example/g00906/laws.FnExactBusiestHold", spec := "fnExactBusiestHold", apart := false, narrowed := true }
def FnExactBusiestHoldUptoSaid : Prop := fnExactBusiestHoldUptoRow.holds Try.pinned (OpenSpec.upto fnExactBusiestHoldSpec)

/-- 'laws.FnExactAddEntry', WHERE WHAT IT READS IS OF BULK AT MOST 1048576: true; the input reads as it did. -/
def fnExactAddEntryUptoRow : OpenClaim := { program := "ytglidkabkkifnaa", sum := "c95d5edf74736d5932badf37c8b9e76e4378ebb90a076efaec2122d17f330ba5", func := "loop.example/g00906/laws.FnExactAddEntry", spec := "fnExactAddEntry", apart := false, narrowed := true }
def FnExactAddEntryUptoSaid : Prop := fnExactAddEntryUptoRow.holds Try.pinned (OpenSpec.upto fnExactAddEntrySpec)

/-- 'laws.FnExactHeldHours', WHERE WHAT IT READS IS OF BULK AT MOST 1048576: true; the input reads as it did. -/
def fnExactHeldHoursUptoRow : OpenClaim := { program := "ytglidkabkkifnaa", sum := "c95d5edf74736d5932badf37c8b9e76e4378ebb90a076efaec2122d17f330ba5", func := "loop.example/g00906/laws.FnExactHeldHours", spec := "fnExactHeldHours", apart := false, narrowed := true }
def FnExactHeldHoursUptoSaid : Prop := fnExactHeldHoursUptoRow.holds Try.pinned (OpenSpec.upto fnExactHeldHoursSpec)

/-- 'laws.FnExactReleaseAll', WHERE WHAT IT READS IS OF BULK AT MOST 1048576: true; the input reads as it did. -/
def fnExactReleaseAllUptoRow : OpenClaim := { program := "ytglidkabkkifnaa", sum := "c95d5edf74736d5932badf37c8b9e76e4378ebb90a076efaec2122d17f330ba5", func := "loop.example/g00906/laws.FnExactReleaseAll", spec := "fnExactReleaseAll", apart := false, narrowed := true }
def FnExactReleaseAllUptoSaid : Prop := fnExactReleaseAllUptoRow.holds Try.pinned (OpenSpec.upto fnExactReleaseAllSpec)

/-- 'laws.FnFiles', WHERE WHAT IT READS IS OF BULK AT MOST 1048576: true; the input reads as it did. -/
def fnFilesUptoRow : OpenClaim := { program := "ytglidkabkkifnaa", sum := "c95d5edf74736d5932badf37c8b9e76e4378ebb90a076efaec2122d17f330ba5", func := "loop.example/g00906/laws.FnFiles", spec := "fnFiles", apart := false, narrowed := true }
def FnFilesUptoSaid : Prop := fnFilesUptoRow.holds Try.pinned (OpenSpec.upto fnFilesSpec)

/-- 'laws.FnExactHeldContainers', WHERE WHAT IT READS IS OF BULK AT MOST 1048576: true; the input reads as it did. -/
def fnExactHeldContainersUptoRow : OpenClaim := { program := "ytglidkabkkifnaa", sum := "c95d5edf74736d5932badf37c8b9e76e4378ebb90a076efaec2122d17f330ba5", func := "loop.example/g00906/laws.FnExactHeldContainers", spec := "fnExactHeldContainers", recurses := true, apart := false, narrowed := true }
def FnExactHeldContainersUptoSaid : Prop := fnExactHeldContainersUptoRow.holds Try.pinned (OpenSpec.upto fnExactHeldContainersSpec)

end Rows
end Go.Proofs.Ytglidkabkkifnaa
