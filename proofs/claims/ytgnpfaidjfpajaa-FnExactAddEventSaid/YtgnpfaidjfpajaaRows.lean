/-
  No cell of these rows narrows 'for every input' (looked for: loops, veiled, ifaces, maps, wideKeys, modest, calm, conditions, laid).
  DERIVED. THE GIVEN ROWS OF THIS SEAT. 4 by the template 'for every input the law returns true; each argument reads behind the call as it read before'; 0 by the template 'total and deterministic' (their statements: YtgnpfaidjfpajaaTotals.lean).
  GIVEN WITH THE SEED: the statements are not yours to turn. If you find one false, say at which input.
  Laid BY PROGRAM, IN A SANDBOX (cutbox-rows.mjs): the forced cells as the released guide's own fill.sh prints them over the translation 6dd6f545a33a6b21… (all of the seat's roots in one cut). By AI agents, Wed Nov 11 2026. No macro, syntax, notation, axiom, sorry.
-/
import Derived.Test.YtgnpfaidjfpajaaChecked
import GoSem.Claim
import GoSem.ClaimJoined
import GoSem.ClaimMapViews
import Derived.JoinedTies
import Derived.KernelRfl
namespace Go.Proofs.Ytgnpfaidjfpajaa
/- THE CELL 'sum', in the pinned program and in every row, IS THE sha256 OF THE DUMP (.gsa) THAT YtgnpfaidjfpajaaProg.lean LOADS. Nothing in Lean hashes anything: it is a label: what it is worth is what the hold of that sum in a sandbox is worth. -/
noncomputable def Try.pinned : Pinned := { name := "ytgnpfaidjfpajaa", sum := "6dd6f545a33a6b21996e87e5441c5ec328c66f5253d30f04eb2721241b115fa1", checked := Try.checked }
namespace Rows
def none {H : Type} : Left H := { results := [], args := [] }

/-- 'laws.FnExactIsHistory': WHATEVER THE INPUT: true; the input reads as it did. -/
def fnExactIsHistorySpec : ChangeSpec := { name := "fnExactIsHistory", fn := fun _ => fun
  | [d] => { results := [.lit (.bool true)], args := [d] }
  | _ => none }
def fnExactIsHistoryRow : OpenClaim := { program := "ytgnpfaidjfpajaa", sum := "6dd6f545a33a6b21996e87e5441c5ec328c66f5253d30f04eb2721241b115fa1", func := "loop.example/g00906/laws.FnExactIsHistory", spec := "fnExactIsHistory", apart := false }
def FnExactIsHistorySaid : Prop := fnExactIsHistoryRow.holds Try.pinned (OpenSpec.ofChange fnExactIsHistorySpec)

/-- ITS FALSE NEIGHBOUR: 'it returns false'. Refute it at one input. -/
def fnExactIsHistoryWrong : ChangeSpec := { name := "fnExactIsHistory", fn := fun _ => fun
  | [d] => { results := [.lit (.bool false)], args := [d] }
  | _ => none }
def FnExactIsHistoryWrongFalsely : Prop := fnExactIsHistoryRow.holds Try.pinned (OpenSpec.ofChange fnExactIsHistoryWrong)

/-- 'laws.FnExactStateAfter': WHATEVER THE INPUT: true; the input reads as it did. -/
def fnExactStateAfterSpec : ChangeSpec := { name := "fnExactStateAfter", fn := fun _ => fun
  | [d] => { results := [.lit (.bool true)], args := [d] }
  | _ => none }
def fnExactStateAfterRow : OpenClaim := { program := "ytgnpfaidjfpajaa", sum := "6dd6f545a33a6b21996e87e5441c5ec328c66f5253d30f04eb2721241b115fa1", func := "loop.example/g00906/laws.FnExactStateAfter", spec := "fnExactStateAfter", apart := false }
def FnExactStateAfterSaid : Prop := fnExactStateAfterRow.holds Try.pinned (OpenSpec.ofChange fnExactStateAfterSpec)

/-- ITS FALSE NEIGHBOUR: 'it returns false'. Refute it at one input. -/
def fnExactStateAfterWrong : ChangeSpec := { name := "fnExactStateAfter", fn := fun _ => fun
  | [d] => { results := [.lit (.bool false)], args := [d] }
  | _ => none }
def FnExactStateAfterWrongFalsely : Prop := fnExactStateAfterRow.holds Try.pinned (OpenSpec.ofChange fnExactStateAfterWrong)

/-- 'laws.FnExactTimesStacked': WHATEVER THE INPUT: true; the input reads as it did. -/
def fnExactTimesStackedSpec : ChangeSpec := { name := "fnExactTimesStacked", fn := fun _ => fun
  | [d] => { results := [.lit (.bool true)], args := [d] }
  | _ => none }
def fnExactTimesStackedRow : OpenClaim := { program := "ytgnpfaidjfpajaa", sum := "6dd6f545a33a6b21996e87e5441c5ec328c66f5253d30f04eb2721241b115fa1", func := "loop.example/g00906/laws.FnExactTimesStacked", spec := "fnExactTimesStacked", apart := false }
def FnExactTimesStackedSaid : Prop := fnExactTimesStackedRow.holds Try.pinned (OpenSpec.ofChange fnExactTimesStackedSpec)

/-- ITS FALSE NEIGHBOUR: 'it returns false'. Refute it at one input. -/
def fnExactTimesStackedWrong : ChangeSpec := { name := "fnExactTimesStacked", fn := fun _ => fun
  | [d] => { results := [.lit (.bool false)], args := [d] }
  | _ => none }
def FnExactTimesStackedWrongFalsely : Prop := fnExactTimesStackedRow.holds Try.pinned (OpenSpec.ofChange fnExactTimesStackedWrong)

/-- 'laws.FnExactAddEvent': WHATEVER THE INPUT: true; the input reads as it did. -/
def fnExactAddEventSpec : ChangeSpec := { name := "fnExactAddEvent", fn := fun _ => fun
  | [d1, d2] => { results := [.lit (.bool true)], args := [d1, d2] }
  | _ => none }
def fnExactAddEventRow : OpenClaim := { program := "ytgnpfaidjfpajaa", sum := "6dd6f545a33a6b21996e87e5441c5ec328c66f5253d30f04eb2721241b115fa1", func := "loop.example/g00906/laws.FnExactAddEvent", spec := "fnExactAddEvent", apart := false }
def FnExactAddEventSaid : Prop := fnExactAddEventRow.holds Try.pinned (OpenSpec.ofChange fnExactAddEventSpec)

/-- ITS FALSE NEIGHBOUR: 'it returns false'. Refute it at one input. -/
def fnExactAddEventWrong : ChangeSpec := { name := "fnExactAddEvent", fn := fun _ => fun
  | [d1, d2] => { results := [.lit (.bool false)], args := [d1, d2] }
  | _ => none }
def FnExactAddEventWrongFalsely : Prop := fnExactAddEventRow.holds Try.pinned (OpenSpec.ofChange fnExactAddEventWrong)

/- THE SECOND FORM. 'bulk': how many values and letters a reading holds, each counted each time it is reached (what is shared counts as often as it is met; a slice's spare places count too). A statement '..UptoSaid' is the law's where the arguments, and the package variables that the reading takes, are together of bulk at most 1048576: NARROWER than '..Said'. Prove '..Said' where nothing that the law and all that it calls make is longer than what came in: it says more and counts as full. Else prove '..UptoSaid'. A law counts once. -/
mutual
def uptoBulk {H : Type} : DataW H → Nat
  | .lit (.string bytes) => bytes.length + 1
  | .lit _ => 1
  | .nil => 1
  | .ptr d => uptoBulk d + 1
  | .slice elems spare => uptoBulkAll elems + uptoBulkAll spare + 1
  | .agg parts => uptoBulkAll parts + 1
  | .iface _ d => uptoBulk d + 1
  | .map entries => uptoBulkEntries entries + 1
  | .held _ => 1
def uptoBulkAll {H : Type} : List (DataW H) → Nat
  | [] => 0
  | d :: r => uptoBulk d + uptoBulkAll r
def uptoBulkEntries {H : Type} : List (Lit × DataW H) → Nat
  | [] => 0
  | x :: r => uptoBulkEntry x + uptoBulkEntries r
def uptoBulkEntry {H : Type} : Lit × DataW H → Nat
  | (.string bytes, d) => bytes.length + uptoBulk d + 1
  | (_, d) => uptoBulk d + 1
 end
def uptoSmall : (H : Type) → List (DataW H) → Bool := fun _ ds => decide (uptoBulkAll ds ≤ 1048576)
def OpenSpec.upto (s : _root_.Go.ChangeSpec) : _root_.Go.OpenSpec := { _root_.Go.OpenSpec.ofChange s with cond := some uptoSmall }

/-- 'laws.FnExactIsHistory', WHERE WHAT IT READS IS OF BULK AT MOST 1048576: true; the input reads as it did. -/
def fnExactIsHistoryUptoRow : OpenClaim := { program := "ytgnpfaidjfpajaa", sum := "6dd6f545a33a6b21996e87e5441c5ec328c66f5253d30f04eb2721241b115fa1", func := "loop.example/g00906/laws.FnExactIsHistory", spec := "fnExactIsHistory", apart := false, narrowed := true }
def FnExactIsHistoryUptoSaid : Prop := fnExactIsHistoryUptoRow.holds Try.pinned (OpenSpec.upto fnExactIsHistorySpec)

/-- 'laws.FnExactStateAfter', WHERE WHAT IT READS IS OF BULK AT MOST 1048576: true; the input reads as it did. -/
def fnExactStateAfterUptoRow : OpenClaim := { program := "ytgnpfaidjfpajaa", sum := "6dd6f545a33a6b21996e87e5441c5ec328c66f5253d30f04eb2721241b115fa1", func := "loop.example/g00906/laws.FnExactStateAfter", spec := "fnExactStateAfter", apart := false, narrowed := true }
def FnExactStateAfterUptoSaid : Prop := fnExactStateAfterUptoRow.holds Try.pinned (OpenSpec.upto fnExactStateAfterSpec)

/-- 'laws.FnExactTimesStacked', WHERE WHAT IT READS IS OF BULK AT MOST 1048576: true; the input reads as it did. -/
def fnExactTimesStackedUptoRow : OpenClaim := { program := "ytgnpfaidjfpajaa", sum := "6dd6f545a33a6b21996e87e5441c5ec328c66f5253d30f04eb2721241b115fa1", func := "loop.example/g00906/laws.FnExactTimesStacked", spec := "fnExactTimesStacked", apart := false, narrowed := true }
def FnExactTimesStackedUptoSaid : Prop := fnExactTimesStackedUptoRow.holds Try.pinned (OpenSpec.upto fnExactTimesStackedSpec)

/-- 'laws.FnExactAddEvent', WHERE WHAT IT READS IS OF BULK AT MOST 1048576: true; the input reads as it did. -/
def fnExactAddEventUptoRow : OpenClaim := { program := "ytgnpfaidjfpajaa", sum := "6dd6f545a33a6b21996e87e5441c5ec328c66f5253d30f04eb2721241b115fa1", func := "loop.example/g00906/laws.FnExactAddEvent", spec := "fnExactAddEvent", apart := false, narrowed := true }
def FnExactAddEventUptoSaid : Prop := fnExactAddEventUptoRow.holds Try.pinned (OpenSpec.upto fnExactAddEventSpec)

end Rows
end Go.Proofs.Ytgnpfaidjfpajaa
