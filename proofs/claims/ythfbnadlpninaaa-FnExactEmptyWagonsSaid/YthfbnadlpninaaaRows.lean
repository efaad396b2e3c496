/-
  No cell of these rows narrows 'for every input' (looked for: loops, veiled, ifaces, maps, wideKeys, modest, calm, conditions, laid).
  DERIVED. THE GIVEN ROWS OF THIS SEAT. 12 by the template 'for every input the law returns true; each argument reads behind the call as it read before'; 0 by the template 'total and deterministic' (their statements: YthfbnadlpninaaaTotals.lean).
  GIVEN WITH THE SEED: the statements are not yours to turn. If you find one false, say at which input.
  Laid BY PROGRAM, IN A SANDBOX (cutbox-rows.mjs): the forced cells as the released guide's own fill.sh prints them over the translation 3e1284f8b5d0195c… (all of the seat's roots in one cut). By AI agents, Wed Nov 11 2026. No macro, syntax, notation, axiom, sorry.
-/
import Derived.Test.YthfbnadlpninaaaChecked
import GoSem.Claim
import GoSem.ClaimJoined
import GoSem.ClaimMapViews
import Derived.JoinedTies
import Derived.KernelRfl
namespace Go.Proofs.Ythfbnadlpninaaa
/- THE CELL 'sum', in the pinned program and in every row, IS THE sha256 OF THE DUMP (.gsa) THAT YthfbnadlpninaaaProg.lean LOADS. Nothing in Lean hashes anything: it is a label: what it is worth is what the hold of that sum in a sandbox is worth. -/
noncomputable def Try.pinned : Pinned := { name := "ythfbnadlpninaaa", sum := "3e1284f8b5d0195cc096d5c32d7f7ec10d032e8951cc4ccd8bd00f9f37c5c697", checked := Try.checked }
namespace Rows
def none {H : Type} : Left H := { results := [], args := [] }

/-- 'laws.FnExactIsValidTrain': WHATEVER THE INPUT: true; the input reads as it did. -/
def fnExactIsValidTrainSpec : ChangeSpec := { name := "fnExactIsValidTrain", fn := fun _ => fun
  | [d] => { results := [.lit (.bool true)], args := [d] }
  | _ => none }
def fnExactIsValidTrainRow : OpenClaim := { program := "ythfbnadlpninaaa", sum := "3e1284f8b5d0195cc096d5c32d7f7ec10d032e8951cc4ccd8bd00f9f37c5c697", func := "loop.example/g00906/laws.FnExactIsValidTrain", spec := "fnExactIsValidTrain", unfollowed := true, recurses := true, apart := false }
def FnExactIsValidTrainSaid : Prop := fnExactIsValidTrainRow.holds Try.pinned (OpenSpec.ofChange fnExactIsValidTrainSpec)

/-- ITS FALSE NEIGHBOUR: 'it returns false'. Refute it at one input. -/
def fnExactIsValidTrainWrong : ChangeSpec := { name := "fnExactIsValidTrain", fn := fun _ => fun
  | [d] => { results := [.lit (.bool false)], args := [d] }
  | _ => none }
def FnExactIsValidTrainWrongFalsely : Prop := fnExactIsValidTrainRow.holds Try.pinned (OpenSpec.ofChange fnExactIsValidTrainWrong)

/-- 'laws.FnExactIsValidLoading': WHATEVER THE INPUT: true; the input reads as it did. -/
def fnExactIsValidLoadingSpec : ChangeSpec := { name := "fnExactIsValidLoading", fn := fun _ => fun
  | [d1, d2, d3] => { results := [.lit (.bool true)], args := [d1, d2, d3] }
  | _ => none }
def fnExactIsValidLoadingRow : OpenClaim := { program := "ythfbnadlpninaaa", sum := "3e1284f8b5d0195cc096d5c32d7f7ec10d032e8951cc4ccd8bd00f9f37c5c697", func := "loop.example/g00906/laws.FnExactIsValidLoading", spec := "fnExactIsValidLoading", unfollowed := true, recurses := true, apart := false }
def FnExactIsValidLoadingSaid : Prop := fnExactIsValidLoadingRow.holds Try.pinned (OpenSpec.ofChange fnExactIsValidLoadingSpec)

/-- ITS FALSE NEIGHBOUR: 'it returns false'. Refute it at one input. -/
def fnExactIsValidLoadingWrong : ChangeSpec := { name := "fnExactIsValidLoading", fn := fun _ => fun
  | [d1, d2, d3] => { results := [.lit (.bool false)], args := [d1, d2, d3] }
  | _ => none }
def FnExactIsValidLoadingWrongFalsely : Prop := fnExactIsValidLoadingRow.holds Try.pinned (OpenSpec.ofChange fnExactIsValidLoadingWrong)

/-- 'laws.FnExactMostContainers': WHATEVER THE INPUT: true; the input reads as it did. -/
def fnExactMostContainersSpec : ChangeSpec := { name := "fnExactMostContainers", fn := fun _ => fun
  | [d1, d2] => { results := [.lit (.bool true)], args := [d1, d2] }
  | _ => none }
def fnExactMostContainersRow : OpenClaim := { program := "ythfbnadlpninaaa", sum := "3e1284f8b5d0195cc096d5c32d7f7ec10d032e8951cc4ccd8bd00f9f37c5c697", func := "loop.example/g00906/laws.FnExactMostContainers", spec := "fnExactMostContainers", unfollowed := true, recurses := true, apart := false }
def FnExactMostContainersSaid : Prop := fnExactMostContainersRow.holds Try.pinned (OpenSpec.ofChange fnExactMostContainersSpec)

/-- ITS FALSE NEIGHBOUR: 'it returns false'. Refute it at one input. -/
def fnExactMostContainersWrong : ChangeSpec := { name := "fnExactMostContainers", fn := fun _ => fun
  | [d1, d2] => { results := [.lit (.bool false)], args := [d1, d2] }
  | _ => none }
def FnExactMostContainersWrongFalsely : Prop := fnExactMostContainersRow.holds Try.pinned (OpenSpec.ofChange fnExactMostContainersWrong)

/-- 'laws.FnExactByDestination': WHATEVER THE INPUT: true; the input reads as it did. -/
def fnExactByDestinationSpec : ChangeSpec := { name := "fnExactByDestination", fn := fun _ => fun
  | [d1, d2, d3] => { results := [.lit (.bool true)], args := [d1, d2, d3] }
  | _ => none }
def fnExactByDestinationRow : OpenClaim := { program := "ythfbnadlpninaaa", sum := "3e1284f8b5d0195cc096d5c32d7f7ec10d032e8951cc4ccd8bd00f9f37c5c697", func := "loop.example/g00906/laws.FnExactByDestination", spec := "fnExactByDestination", unfollowed := true, recurses := true, apart := false }
def FnExactByDestinationSaid : Prop := fnExactByDestinationRow.holds Try.pinned (OpenSpec.ofChange fnExactByDestinationSpec)

/-- ITS FALSE NEIGHBOUR: 'it returns false'. Refute it at one input. -/
def fnExactByDestinationWrong : ChangeSpec := { name := "fnExactByDestination", fn := fun _ => fun
  | [d1, d2, d3] => { results := [.lit (.bool false)], args := [d1, d2, d3] }
  | _ => none }
def FnExactByDestinationWrongFalsely : Prop := fnExactByDestinationRow.holds Try.pinned (OpenSpec.ofChange fnExactByDestinationWrong)

/-- 'laws.FnExactLoadInOrder': WHATEVER THE INPUT: true; the input reads as it did. -/
def fnExactLoadInOrderSpec : ChangeSpec := { name := "fnExactLoadInOrder", fn := fun _ => fun
  | [d1, d2] => { results := [.lit (.bool true)], args := [d1, d2] }
  | _ => none }
def fnExactLoadInOrderRow : OpenClaim := { program := "ythfbnadlpninaaa", sum := "3e1284f8b5d0195cc096d5c32d7f7ec10d032e8951cc4ccd8bd00f9f37c5c697", func := "loop.example/g00906/laws.FnExactLoadInOrder", spec := "fnExactLoadInOrder", unfollowed := true, recurses := true, apart := false }
def FnExactLoadInOrderSaid : Prop := fnExactLoadInOrderRow.holds Try.pinned (OpenSpec.ofChange fnExactLoadInOrderSpec)

/-- ITS FALSE NEIGHBOUR: 'it returns false'. Refute it at one input. -/
def fnExactLoadInOrderWrong : ChangeSpec := { name := "fnExactLoadInOrder", fn := fun _ => fun
  | [d1, d2] => { results := [.lit (.bool false)], args := [d1, d2] }
  | _ => none }
def FnExactLoadInOrderWrongFalsely : Prop := fnExactLoadInOrderRow.holds Try.pinned (OpenSpec.ofChange fnExactLoadInOrderWrong)

/-- 'laws.FnExactFreeLengths': WHATEVER THE INPUT: true; the input reads as it did. -/
def fnExactFreeLengthsSpec : ChangeSpec := { name := "fnExactFreeLengths", fn := fun _ => fun
  | [d1, d2, d3] => { results := [.lit (.bool true)], args := [d1, d2, d3] }
  | _ => none }
def fnExactFreeLengthsRow : OpenClaim := { program := "ythfbnadlpninaaa", sum := "3e1284f8b5d0195cc096d5c32d7f7ec10d032e8951cc4ccd8bd00f9f37c5c697", func := "loop.example/g00906/laws.FnExactFreeLengths", spec := "fnExactFreeLengths", unfollowed := true, recurses := true, apart := false }
def FnExactFreeLengthsSaid : Prop := fnExactFreeLengthsRow.holds Try.pinned (OpenSpec.ofChange fnExactFreeLengthsSpec)

/-- ITS FALSE NEIGHBOUR: 'it returns false'. Refute it at one input. -/
def fnExactFreeLengthsWrong : ChangeSpec := { name := "fnExactFreeLengths", fn := fun _ => fun
  | [d1, d2, d3] => { results := [.lit (.bool false)], args := [d1, d2, d3] }
  | _ => none }
def FnExactFreeLengthsWrongFalsely : Prop := fnExactFreeLengthsRow.holds Try.pinned (OpenSpec.ofChange fnExactFreeLengthsWrong)

/-- 'laws.FnExactWagonWeights': WHATEVER THE INPUT: true; the input reads as it did. -/
def fnExactWagonWeightsSpec : ChangeSpec := { name := "fnExactWagonWeights", fn := fun _ => fun
  | [d1, d2, d3] => { results := [.lit (.bool true)], args := [d1, d2, d3] }
  | _ => none }
def fnExactWagonWeightsRow : OpenClaim := { program := "ythfbnadlpninaaa", sum := "3e1284f8b5d0195cc096d5c32d7f7ec10d032e8951cc4ccd8bd00f9f37c5c697", func := "loop.example/g00906/laws.FnExactWagonWeights", spec := "fnExactWagonWeights", unfollowed := true, recurses := true, apart := false }
def FnExactWagonWeightsSaid : Prop := fnExactWagonWeightsRow.holds Try.pinned (OpenSpec.ofChange fnExactWagonWeightsSpec)

/-- ITS FALSE NEIGHBOUR: 'it returns false'. Refute it at one input. -/
def fnExactWagonWeightsWrong : ChangeSpec := { name := "fnExactWagonWeights", fn := fun _ => fun
  | [d1, d2, d3] => { results := [.lit (.bool false)], args := [d1, d2, d3] }
  | _ => none }
def FnExactWagonWeightsWrongFalsely : Prop := fnExactWagonWeightsRow.holds Try.pinned (OpenSpec.ofChange fnExactWagonWeightsWrong)

/-- 'laws.FnExactMoveToWagon': WHATEVER THE INPUT: true; the input reads as it did. -/
def fnExactMoveToWagonSpec : ChangeSpec := { name := "fnExactMoveToWagon", fn := fun _ => fun
  | [d1, d2, d3, d4, d5] => { results := [.lit (.bool true)], args := [d1, d2, d3, d4, d5] }
  | _ => none }
def fnExactMoveToWagonRow : OpenClaim := { program := "ythfbnadlpninaaa", sum := "3e1284f8b5d0195cc096d5c32d7f7ec10d032e8951cc4ccd8bd00f9f37c5c697", func := "loop.example/g00906/laws.FnExactMoveToWagon", spec := "fnExactMoveToWagon", unfollowed := true, recurses := true, apart := false }
def FnExactMoveToWagonSaid : Prop := fnExactMoveToWagonRow.holds Try.pinned (OpenSpec.ofChange fnExactMoveToWagonSpec)

/-- ITS FALSE NEIGHBOUR: 'it returns false'. Refute it at one input. -/
def fnExactMoveToWagonWrong : ChangeSpec := { name := "fnExactMoveToWagon", fn := fun _ => fun
  | [d1, d2, d3, d4, d5] => { results := [.lit (.bool false)], args := [d1, d2, d3, d4, d5] }
  | _ => none }
def FnExactMoveToWagonWrongFalsely : Prop := fnExactMoveToWagonRow.holds Try.pinned (OpenSpec.ofChange fnExactMoveToWagonWrong)

/-- 'laws.FnExactLeftBehindContainers': WHATEVER THE INPUT: true; the input reads as it did. -/
def fnExactLeftBehindContainersSpec : ChangeSpec := { name := "fnExactLeftBehindContainers", fn := fun _ => fun
  | [d1, d2, d3] => { results := [.lit (.bool true)], args := [d1, d2, d3] }
  | _ => none }
def fnExactLeftBehindContainersRow : OpenClaim := { program := "ythfbnadlpninaaa", sum := "3e1284f8b5d0195cc096d5c32d7f7ec10d032e8951cc4ccd8bd00f9f37c5c697", func := "loop.example/g00906/laws.FnExactLeftBehindContainers", spec := "fnExactLeftBehindContainers", unfollowed := true, recurses := true, apart := false }
def FnExactLeftBehindContainersSaid : Prop := fnExactLeftBehindContainersRow.holds Try.pinned (OpenSpec.ofChange fnExactLeftBehindContainersSpec)

/-- ITS FALSE NEIGHBOUR: 'it returns false'. Refute it at one input. -/
def fnExactLeftBehindContainersWrong : ChangeSpec := { name := "fnExactLeftBehindContainers", fn := fun _ => fun
  | [d1, d2, d3] => { results := [.lit (.bool false)], args := [d1, d2, d3] }
  | _ => none }
def FnExactLeftBehindContainersWrongFalsely : Prop := fnExactLeftBehindContainersRow.holds Try.pinned (OpenSpec.ofChange fnExactLeftBehindContainersWrong)

/-- 'laws.FnExactEmptyWagons': WHATEVER THE INPUT: true; the input reads as it did. -/
def fnExactEmptyWagonsSpec : ChangeSpec := { name := "fnExactEmptyWagons", fn := fun _ => fun
  | [d1, d2, d3] => { results := [.lit (.bool true)], args := [d1, d2, d3] }
  | _ => none }
def fnExactEmptyWagonsRow : OpenClaim := { program := "ythfbnadlpninaaa", sum := "3e1284f8b5d0195cc096d5c32d7f7ec10d032e8951cc4ccd8bd00f9f37c5c697", func := "loop.example/g00906/laws.FnExactEmptyWagons", spec := "fnExactEmptyWagons", unfollowed := true, recurses := true, apart := false }
def FnExactEmptyWagonsSaid : Prop := fnExactEmptyWagonsRow.holds Try.pinned (OpenSpec.ofChange fnExactEmptyWagonsSpec)

/-- ITS FALSE NEIGHBOUR: 'it returns false'. Refute it at one input. -/
def fnExactEmptyWagonsWrong : ChangeSpec := { name := "fnExactEmptyWagons", fn := fun _ => fun
  | [d1, d2, d3] => { results := [.lit (.bool false)], args := [d1, d2, d3] }
  | _ => none }
def FnExactEmptyWagonsWrongFalsely : Prop := fnExactEmptyWagonsRow.holds Try.pinned (OpenSpec.ofChange fnExactEmptyWagonsWrong)

/-- 'laws.FnWagons': WHATEVER THE INPUT: true; the input reads as it did. -/
def fnWagonsSpec : ChangeSpec := { name := "fnWagons", fn := fun _ => fun
  | [d] => { results := [.lit (.bool true)], args := [d] }
  | _ => none }
def fnWagonsRow : OpenClaim := { program := "ythfbnadlpninaaa", sum := "3e1284f8b5d0195cc096d5c32d7f7ec10d032e8951cc4ccd8bd00f9f37c5c697", func := "loop.example/g00906/laws.FnWagons", spec := "fnWagons", unfollowed := true, recurses := true, apart := false }
def FnWagonsSaid : Prop := fnWagonsRow.holds Try.pinned (OpenSpec.ofChange fnWagonsSpec)

/-- ITS FALSE NEIGHBOUR: 'it returns false'. Refute it at one input. -/
def fnWagonsWrong : ChangeSpec := { name := "fnWagons", fn := fun _ => fun
  | [d] => { results := [.lit (.bool false)], args := [d] }
  | _ => none }
def FnWagonsWrongFalsely : Prop := fnWagonsRow.holds Try.pinned (OpenSpec.ofChange fnWagonsWrong)

/-- 'laws.FnTrainLoading': WHATEVER THE INPUT: true; the input reads as it did. -/
def fnTrainLoadingSpec : ChangeSpec := { name := "fnTrainLoading", fn := fun _ => fun
  | [d] => { results := [.lit (.bool true)], args := [d] }
  | _ => none }
def fnTrainLoadingRow : OpenClaim := { program := "ythfbnadlpninaaa", sum := "3e1284f8b5d0195cc096d5c32d7f7ec10d032e8951cc4ccd8bd00f9f37c5c697", func := "loop.example/g00906/laws.FnTrainLoading", spec := "fnTrainLoading", unfollowed := true, recurses := true, apart := false }
def FnTrainLoadingSaid : Prop := fnTrainLoadingRow.holds Try.pinned (OpenSpec.ofChange fnTrainLoadingSpec)

/-- ITS FALSE NEIGHBOUR: 'it returns false'. Refute it at one input. -/
def fnTrainLoadingWrong : ChangeSpec := { name := "fnTrainLoading", fn := fun _ => fun
  | [d] => { results := [.lit (.bool false)], args := [d] }
  | _ => none }
def FnTrainLoadingWrongFalsely : Prop := fnTrainLoadingRow.holds Try.pinned (OpenSpec.ofChange fnTrainLoadingWrong)

/- THE SECOND FORM. 'bulk': how many values and letters a reading holds, each counted each time it is reached (what is shared counts as often as it is met; a slice's spare places count too). A statement '..UptoSaid' is the law's where the arguments, and the package variables that the reading takes, are together of bulk at most 1048576: NARROWER than '..Said'. Prove '..Said' where nothing that the law and all that it calls make is longer than what came in: it says more and counts as full. Else prove '..UptoSaid'. A law counts once. -/
mutual
def uptoBulk {H : Type} : DataW H → Nat
  | .lit (.string bytes) => bytes.length + 1
  | .lit _ => 1
  | .nil => 1
  | .ptr d => uptoBulk d + 1
  | .slice elems spare => uptoBulkAll elems + uptoBulkAll spare + 1
  | .agg parts => uptoBulkAll parts + 1
  | .iface _ d => uptoBulk d + 1
  | .map entries => uptoBulkEntries entries + 1
  | .held _ => 1
def uptoBulkAll {H : Type} : List (DataW H) → Nat
  | [] => 0
  | d :: r => uptoBulk d + uptoBulkAll r
def uptoBulkEntries {H : Type} : List (Lit × DataW H) → Nat
  | [] => 0
  | x :: r => uptoBulkEntry x + uptoBulkEntries r
def uptoBulkEntry {H : Type} : Lit × DataW H → Nat
  | (.string bytes, d) => bytes.length + uptoBulk d + 1
  | (_, d) => uptoBulk d + 1
 end
def uptoSmall : (H : Type) → List (DataW H) → Bool := fun _ ds => decide (uptoBulkAll ds ≤ 1048576)
def OpenSpec.upto (s : _root_.Go.ChangeSpec) : _root_.Go.OpenSpec := { _root_.Go.OpenSpec.ofChange s with cond := some uptoSmall }

/-- 'laws.FnExactIsValidTrain', WHERE WHAT IT READS IS OF BULK AT MOST 1048576: true; the input reads as it did. -/
def fnExactIsValidTrainUptoRow : OpenClaim := { program := "ythfbnadlpninaaa", sum := "3e1284f8b5d0195cc096d5c32d7f7ec10d032e8951cc4ccd8bd00f9f37c5c697", func := "loop.example/g00906/laws.FnExactIsValidTrain", spec := "fnExactIsValidTrain", unfollowed := true, recurses := true, apart := false, narrowed := true }
def FnExactIsValidTrainUptoSaid : Prop := fnExactIsValidTrainUptoRow.holds Try.pinned (OpenSpec.upto fnExactIsValidTrainSpec)

/-- 'laws.FnExactIsValidLoading', WHERE WHAT IT READS IS OF BULK AT MOST 1048576: true; the input reads as it did. -/
def fnExactIsValidLoadingUptoRow : OpenClaim := { program := "ythfbnadlpninaaa", sum := "3e1284f8b5d0195cc096d5c32d7f7ec10d032e8951cc4ccd8bd00f9f37c5c697", func := "loop.example/g00906/laws.FnExactIsValidLoading", spec := "fnExactIsValidLoading", unfollowed := true, recurses := true, apart := false, narrowed := true }
def FnExactIsValidLoadingUptoSaid : Prop := fnExactIsValidLoadingUptoRow.holds Try.pinned (OpenSpec.upto fnExactIsValidLoadingSpec)

/-- 'laws.FnExactMostContainers', WHERE WHAT IT READS IS OF BULK AT MOST 1048576: true; the input reads as it did. -/
def fnExactMostContainersUptoRow : OpenClaim := { program := "ythfbnadlpninaaa", sum := "3e1284f8b5d0195cc096d5c32d7f7ec10d032e8951cc4ccd8bd00f9f37c5c697", func := "loop.example/g00906/laws.FnExactMostContainers", spec := "fnExactMostContainers", unfollowed := true, recurses := true, apart := false, narrowed := true }
def FnExactMostContainersUptoSaid : Prop := fnExactMostContainersUptoRow.holds Try.pinned (OpenSpec.upto fnExactMostContainersSpec)

/-- 'laws.FnExactByDestination', WHERE WHAT IT READS IS OF BULK AT MOST 1048576: true; the input reads as it did. -/
def fnExactByDestinationUptoRow : OpenClaim := { program := "ythfbnadlpninaaa", sum := "3e1284f8b5d0195cc096d5c32d7f7ec10d032e8951cc4ccd8bd00f9f37c5c697", func := "loop.example/g00906/laws.FnExactByDestination", spec := "fnExactByDestination", unfollowed := true, recurses := true, apart := false, narrowed := true }
def FnExactByDestinationUptoSaid : Prop := fnExactByDestinationUptoRow.holds Try.pinned (OpenSpec.upto fnExactByDestinationSpec)

/-- 'laws.FnExactLoadInOrder', WHERE WHAT IT READS IS OF BULK AT MOST 1048576: true; the input reads as it did. -/
def fnExactLoadInOrderUptoRow : OpenClaim := { program := "ythfbnadlpninaaa", sum := "3e1284f8b5d0195cc096d5c32d7f7ec10d032e8951cc4ccd8bd00f9f37c5c697", func := "loop.example/g00906/laws.FnExactLoadInOrder", spec := "fnExactLoadInOrder", unfollowed := true, recurses := true, apart := false, narrowed := true }
def FnExactLoadInOrderUptoSaid : Prop := fnExactLoadInOrderUptoRow.holds Try.pinned (OpenSpec.upto fnExactLoadInOrderSpec)

/-- 'laws.FnExactFreeLengths', WHERE WHAT IT READS IS OF BULK AT MOST 1048576: true; the input reads as it did. -/
def fnExactFreeLengthsUptoRow : OpenClaim := { program := "ythfbnadlpninaaa", sum := "3e1284f8b5d0195cc096d5c32d7f7ec10d032e8951cc4ccd8bd00f9f37c5c697", func := "loop.example/g00906/laws.FnExactFreeLengths", spec := "fnExactFreeLengths", unfollowed := true, recurses := true, apart := false, narrowed := true }
def FnExactFreeLengthsUptoSaid : Prop := fnExactFreeLengthsUptoRow.holds Try.pinned (OpenSpec.upto fnExactFreeLengthsSpec)

/-- 'laws.FnExactWagonWeights', WHERE WHAT IT READS IS OF BULK AT MOST 1048576: true; the input reads as it did. -/
def fnExactWagonWeightsUptoRow : OpenClaim := { program := "ythfbnadlpninaaa", sum := "3e1284f8b5d0195cc096d5c32d7f7ec10d032e8951cc4ccd8bd00f9f37c5c697", func := "loop.example/g00906/laws.FnExactWagonWeights", spec := "fnExactWagonWeights", unfollowed := true, recurses := true, apart := false, narrowed := true }
def FnExactWagonWeightsUptoSaid : Prop := fnExactWagonWeightsUptoRow.holds Try.pinned (OpenSpec.upto fnExactWagonWeightsSpec)

/-- 'laws.FnExactMoveToWagon', WHERE WHAT IT READS IS OF BULK AT MOST 1048576: true; the input reads as it did. -/
def fnExactMoveToWagonUptoRow : OpenClaim := { program := "ythfbnadlpninaaa", sum := "3e1284f8b5d0195cc096d5c32d7f7ec10d032e8951cc4ccd8bd00f9f37c5c697", func := "loop.example/g00906/laws.FnExactMoveToWagon", spec := "fnExactMoveToWagon", unfollowed := true, recurses := true, apart := false, narrowed := true }
def FnExactMoveToWagonUptoSaid : Prop := fnExactMoveToWagonUptoRow.holds Try.pinned (OpenSpec.upto fnExactMoveToWagonSpec)

/-- 'laws.FnExactLeftBehindContainers', WHERE WHAT IT READS IS OF BULK AT MOST 1048576: true; the input reads as it did. -/
def fnExactLeftBehindContainersUptoRow : OpenClaim := { program := "ythfbnadlpninaaa", sum := "3e1284f8b5d0195cc096d5c32d7f7ec10d032e8951cc4ccd8bd00f9f37c5c697", func := "loop.example/g00906/laws.FnExactLeftBehindContainers", spec := "fnExactLeftBehindContainers", unfollowed := true, recurses := true, apart := false, narrowed := true }
def FnExactLeftBehindContainersUptoSaid : Prop := fnExactLeftBehindContainersUptoRow.holds Try.pinned (OpenSpec.upto fnExactLeftBehindContainersSpec)

/-- 'laws.FnExactEmptyWagons', WHERE WHAT IT READS IS OF BULK AT MOST 1048576: true; the input reads as it did. -/
def fnExactEmptyWagonsUptoRow : OpenClaim := { program := "ythfbnadlpninaaa", sum := "3e1284f8b5d0195cc096d5c32d7f7ec10d032e8951cc4ccd8bd00f9f37c5c697", func := "loop.example/g00906/laws.FnExactEmptyWagons", spec := "fnExactEmptyWagons", unfollowed := true, recurses := true, apart := false, narrowed := true }
def FnExactEmptyWagonsUptoSaid : Prop := fnExactEmptyWagonsUptoRow.holds Try.pinned (OpenSpec.upto fnExactEmptyWagonsSpec)

/-- 'laws.FnWagons', WHERE WHAT IT READS IS OF BULK AT MOST 1048576: true; the input reads as it did. -/
def fnWagonsUptoRow : OpenClaim := { program := "ythfbnadlpninaaa", sum := "3e1284f8b5d0195cc096d5c32d7f7ec10d032e8951cc4ccd8bd00f9f37c5c697", func := "loop.example/g00906/laws.FnWagons", spec := "fnWagons", unfollowed := true, recurses := true, apart := false, narrowed := true }
def FnWagonsUptoSaid : Prop := fnWagonsUptoRow.holds Try.pinned (OpenSpec.upto fnWagonsSpec)

/-- 'laws.FnTrainLoading', WHERE WHAT IT READS IS OF BULK AT MOST 1048576: true; the input reads as it did. -/
def fnTrainLoadingUptoRow : OpenClaim := { program := "ythfbnadlpninaaa", sum := "3e1284f8b5d0195cc096d5c32d7f7ec10d032e8951cc4ccd8bd00f9f37c5c697", func := "loop.example/g00906/laws.FnTrainLoading", spec := "fnTrainLoading", unfollowed := true, recurses := true, apart := false, narrowed := true }
def FnTrainLoadingUptoSaid : Prop := fnTrainLoadingUptoRow.holds Try.pinned (OpenSpec.upto fnTrainLoadingSpec)

end Rows
end Go.Proofs.Ythfbnadlpninaaa
