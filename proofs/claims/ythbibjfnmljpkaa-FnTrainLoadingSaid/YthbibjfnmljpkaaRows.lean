/-
  No cell of these rows narrows 'for every input' (looked for: loops, veiled, ifaces, maps, wideKeys, modest, calm, conditions, laid).
  DERIVED. THE GIVEN ROWS OF THIS SEAT. 2 by the template 'for every input the law returns true; each argument reads behind the call as it read before'; 0 by the template 'total and deterministic' (their statements: YthbibjfnmljpkaaTotals.lean).
  GIVEN WITH THE SEED: the statements are not yours to turn. If you find one false, say at which input.
  Laid BY PROGRAM, IN A SANDBOX (cutbox-rows.mjs): the forced cells as the released guide's own fill.sh prints them over the translation 0dcb01c78357e92f… (all of the seat's roots in one cut). By AI agents, Wed Nov 11 2026. No macro, syntax, notation, axiom, sorry.
-/
import Derived.Test.YthbibjfnmljpkaaChecked
import GoSem.Claim
import GoSem.ClaimJoined
import GoSem.ClaimMapViews
import Derived.JoinedTies
import Derived.KernelRfl
namespace Go.Proofs.Ythbibjfnmljpkaa
/- THE CELL 'sum', in the pinned program and in every row, IS THE sha256 OF THE DUMP (.gsa) THAT YthbibjfnmljpkaaProg.lean LOADS. Nothing in Lean hashes anything: it is a label: what it is worth is what the hold of that sum in a sandbox is worth. -/
noncomputable def Try.pinned : Pinned := { name := "ythbibjfnmljpkaa", sum := "0dcb01c78357e92f82e78d14782408a47ce10a609ba23e111ba41a590e780ca4", checked := Try.checked }
namespace Rows
def none {H : Type} : Left H := { results := [], args := [] }

/-- 'laws.FnExactMostContainers': WHATEVER THE INPUT: true; the input reads as it did. -/
def fnExactMostContainersSpec : ChangeSpec := { name := "fnExactMostContainers", fn := fun _ => fun
  | [d1, d2] => { results := [.lit (.bool true)], args := [d1, d2] }
  | _ => none }
def fnExactMostContainersRow : OpenClaim := { program := "ythbibjfnmljpkaa", sum := "0dcb01c78357e92f82e78d14782408a47ce10a609ba23e111ba41a590e780ca4", func := "loop.example/g00906/laws.FnExactMostContainers", spec := "fnExactMostContainers", unfollowed := true, recurses := true, apart := false }
def FnExactMostContainersSaid : Prop := fnExactMostContainersRow.holds Try.pinned (OpenSpec.ofChange fnExactMostContainersSpec)

/-- ITS FALSE NEIGHBOUR: 'it returns false'. Refute it at one input. -/
def fnExactMostContainersWrong : ChangeSpec := { name := "fnExactMostContainers", fn := fun _ => fun
  | [d1, d2] => { results := [.lit (.bool false)], args := [d1, d2] }
  | _ => none }
def FnExactMostContainersWrongFalsely : Prop := fnExactMostContainersRow.holds Try.pinned (OpenSpec.ofChange fnExactMostContainersWrong)

/-- 'laws.FnTrainLoading': WHATEVER THE INPUT: true; the input reads as it did. -/
def fnTrainLoadingSpec : ChangeSpec := { name := "fnTrainLoading", fn := fun _ => fun
  | [d] => { results := [.lit (.bool true)], args := [d] }
  | _ => none }
def fnTrainLoadingRow : OpenClaim := { program := "ythbibjfnmljpkaa", sum := "0dcb01c78357e92f82e78d14782408a47ce10a609ba23e111ba41a590e780ca4", func := "loop.example/g00906/laws.FnTrainLoading", spec := "fnTrainLoading", unfollowed := true, recurses := true, apart := false }
def FnTrainLoadingSaid : Prop := fnTrainLoadingRow.holds Try.pinned (OpenSpec.ofChange fnTrainLoadingSpec)

/-- ITS FALSE NEIGHBOUR: 'it returns false'. Refute it at one input. -/
def fnTrainLoadingWrong : ChangeSpec := { name := "fnTrainLoading", fn := fun _ => fun
  | [d] => { results := [.lit (.bool false)], args := [d] }
  | _ => none }
def FnTrainLoadingWrongFalsely : Prop := fnTrainLoadingRow.holds Try.pinned (OpenSpec.ofChange fnTrainLoadingWrong)

/- THE SECOND FORM. 'bulk': how many values and letters a reading holds, each counted each time it is reached (what is shared counts as often as it is met; a slice's spare places count too). A statement '..UptoSaid' is the law's where the arguments, and the package variables that the reading takes, are together of bulk at most 1048576: NARROWER than '..Said'. Prove '..Said' where nothing that the law and all that it calls make is longer than what came in: it says more and counts as full. Else prove '..UptoSaid'. A law counts once. -/
mutual
def uptoBulk {H : Type} : DataW H → Nat
  | .lit (.string bytes) => bytes.length + 1
  | .lit _ => 1
  | .nil => 1
  | .ptr d => uptoBulk d + 1
  | .slice elems spare => uptoBulkAll elems + uptoBulkAll spare + 1
  | .agg parts => uptoBulkAll parts + 1
  | .iface _ d => uptoBulk d + 1
  | .map entries => uptoBulkEntries entries + 1
  | .held _ => 1
def uptoBulkAll {H : Type} : List (DataW H) → Nat
  | [] => 0
  | d :: r => uptoBulk d + uptoBulkAll r
def uptoBulkEntries {H : Type} : List (Lit × DataW H) → Nat
  | [] => 0
  | x :: r => uptoBulkEntry x + uptoBulkEntries r
def uptoBulkEntry {H : Type} : Lit × DataW H → Nat
  | (.string bytes, d) => bytes.length + uptoBulk d + 1
  | (_, d) => uptoBulk d + 1
 end
def uptoSmall : (H : Type) → List (DataW H) → Bool := fun _ ds => decide (uptoBulkAll ds ≤ 1048576)
def OpenSpec.upto (s : _root_.Go.ChangeSpec) : _root_.Go.OpenSpec := { _root_.Go.OpenSpec.ofChange s with cond := some uptoSmall }

/-- 'laws.FnExactMostContainers', WHERE WHAT IT READS IS OF BULK AT MOST 1048576: true; the input reads as it did. -/
def fnExactMostContainersUptoRow : OpenClaim := { program := "ythbibjfnmljpkaa", sum := "0dcb01c78357e92f82e78d14782408a47ce10a609ba23e111ba41a590e780ca4", func := "loop.example/g00906/laws.FnExactMostContainers", spec := "fnExactMostContainers", unfollowed := true, recurses := true, apart := false, narrowed := true }
def FnExactMostContainersUptoSaid : Prop := fnExactMostContainersUptoRow.holds Try.pinned (OpenSpec.upto fnExactMostContainersSpec)

/-- 'laws.FnTrainLoading', WHERE WHAT IT READS IS OF BULK AT MOST 1048576: true; the input reads as it did. -/
def fnTrainLoadingUptoRow : OpenClaim := { program := "ythbibjfnmljpkaa", sum := "0dcb01c78357e92f82e78d14782408a47ce10a609ba23e111ba41a590e780ca4", func := "loop.example/g00906/laws.FnTrainLoading", spec := "fnTrainLoading", unfollowed := true, recurses := true, apart := false, narrowed := true }
def FnTrainLoadingUptoSaid : Prop := fnTrainLoadingUptoRow.holds Try.pinned (OpenSpec.upto fnTrainLoadingSpec)

end Rows
end Go.Proofs.Ythbibjfnmljpkaa
