/-
  No cell of these rows narrows 'for every input' (looked for: loops, veiled, ifaces, maps, wideKeys, modest, calm, conditions, laid).
  DERIVED. THE GIVEN ROWS OF THIS SEAT. 8 by the template 'for every input the law returns true; each argument reads behind the call as it read before'; 0 by the template 'total and deterministic' (their statements: YtjfookckobpheaaTotals.lean).
  GIVEN WITH THE SEED: the statements are not yours to turn. If you find one false, say at which input.
  Laid BY PROGRAM, IN A SANDBOX (cutbox-rows.mjs): the forced cells as the released guide's own fill.sh prints them over the translation 4fbf10febfe4690f… (all of the seat's roots in one cut). By AI agents, Wed Nov 11 2026. No macro, syntax, notation, axiom, sorry.
-/
import Derived.Test.YtjfookckobpheaaChecked
import GoSem.Claim
import GoSem.ClaimJoined
import GoSem.ClaimMapViews
import Derived.JoinedTies
import Derived.KernelRfl
namespace Go.Proofs.Ytjfookckobpheaa
/- THE CELL 'sum', in the pinned program and in every row, IS THE sha256 OF THE DUMP (.gsa) THAT YtjfookckobpheaaProg.lean LOADS. Nothing in Lean hashes anything: it is a label: what it is worth is what the hold of that sum in a sandbox is worth. -/
noncomputable def Try.pinned : Pinned := { name := "ytjfookckobpheaa", sum := "4fbf10febfe4690f61ce9f7e1e05e410e0d96bd918e4da5fa6ef592afd4aee91", checked := Try.checked }
namespace Rows
def none {H : Type} : Left H := { results := [], args := [] }

/-- 'laws.FnExactIsValidReadings': WHATEVER THE INPUT: true; the input reads as it did. -/
def fnExactIsValidReadingsSpec : ChangeSpec := { name := "fnExactIsValidReadings", fn := fun _ => fun
  | [d] => { results := [.lit (.bool true)], args := [d] }
  | _ => none }
def fnExactIsValidReadingsRow : OpenClaim := { program := "ytjfookckobpheaa", sum := "4fbf10febfe4690f61ce9f7e1e05e410e0d96bd918e4da5fa6ef592afd4aee91", func := "loop.example/g00906/laws.FnExactIsValidReadings", spec := "fnExactIsValidReadings", apart := false }
def FnExactIsValidReadingsSaid : Prop := fnExactIsValidReadingsRow.holds Try.pinned (OpenSpec.ofChange fnExactIsValidReadingsSpec)

/-- ITS FALSE NEIGHBOUR: 'it returns false'. Refute it at one input. -/
def fnExactIsValidReadingsWrong : ChangeSpec := { name := "fnExactIsValidReadings", fn := fun _ => fun
  | [d] => { results := [.lit (.bool false)], args := [d] }
  | _ => none }
def FnExactIsValidReadingsWrongFalsely : Prop := fnExactIsValidReadingsRow.holds Try.pinned (OpenSpec.ofChange fnExactIsValidReadingsWrong)

/-- 'laws.FnExactPowerOff': WHATEVER THE INPUT: true; the input reads as it did. -/
def fnExactPowerOffSpec : ChangeSpec := { name := "fnExactPowerOff", fn := fun _ => fun
  | [d] => { results := [.lit (.bool true)], args := [d] }
  | _ => none }
def fnExactPowerOffRow : OpenClaim := { program := "ytjfookckobpheaa", sum := "4fbf10febfe4690f61ce9f7e1e05e410e0d96bd918e4da5fa6ef592afd4aee91", func := "loop.example/g00906/laws.FnExactPowerOff", spec := "fnExactPowerOff", apart := false }
def FnExactPowerOffSaid : Prop := fnExactPowerOffRow.holds Try.pinned (OpenSpec.ofChange fnExactPowerOffSpec)

/-- ITS FALSE NEIGHBOUR: 'it returns false'. Refute it at one input. -/
def fnExactPowerOffWrong : ChangeSpec := { name := "fnExactPowerOff", fn := fun _ => fun
  | [d] => { results := [.lit (.bool false)], args := [d] }
  | _ => none }
def FnExactPowerOffWrongFalsely : Prop := fnExactPowerOffRow.holds Try.pinned (OpenSpec.ofChange fnExactPowerOffWrong)

/-- 'laws.FnExactMeanTenth': WHATEVER THE INPUT: true; the input reads as it did. -/
def fnExactMeanTenthSpec : ChangeSpec := { name := "fnExactMeanTenth", fn := fun _ => fun
  | [d] => { results := [.lit (.bool true)], args := [d] }
  | _ => none }
def fnExactMeanTenthRow : OpenClaim := { program := "ytjfookckobpheaa", sum := "4fbf10febfe4690f61ce9f7e1e05e410e0d96bd918e4da5fa6ef592afd4aee91", func := "loop.example/g00906/laws.FnExactMeanTenth", spec := "fnExactMeanTenth", apart := false }
def FnExactMeanTenthSaid : Prop := fnExactMeanTenthRow.holds Try.pinned (OpenSpec.ofChange fnExactMeanTenthSpec)

/-- ITS FALSE NEIGHBOUR: 'it returns false'. Refute it at one input. -/
def fnExactMeanTenthWrong : ChangeSpec := { name := "fnExactMeanTenth", fn := fun _ => fun
  | [d] => { results := [.lit (.bool false)], args := [d] }
  | _ => none }
def FnExactMeanTenthWrongFalsely : Prop := fnExactMeanTenthRow.holds Try.pinned (OpenSpec.ofChange fnExactMeanTenthWrong)

/-- 'laws.FnExactLongestAlarm': WHATEVER THE INPUT: true; the input reads as it did. -/
def fnExactLongestAlarmSpec : ChangeSpec := { name := "fnExactLongestAlarm", fn := fun _ => fun
  | [d1, d2, d3] => { results := [.lit (.bool true)], args := [d1, d2, d3] }
  | _ => none }
def fnExactLongestAlarmRow : OpenClaim := { program := "ytjfookckobpheaa", sum := "4fbf10febfe4690f61ce9f7e1e05e410e0d96bd918e4da5fa6ef592afd4aee91", func := "loop.example/g00906/laws.FnExactLongestAlarm", spec := "fnExactLongestAlarm", apart := false }
def FnExactLongestAlarmSaid : Prop := fnExactLongestAlarmRow.holds Try.pinned (OpenSpec.ofChange fnExactLongestAlarmSpec)

/-- ITS FALSE NEIGHBOUR: 'it returns false'. Refute it at one input. -/
def fnExactLongestAlarmWrong : ChangeSpec := { name := "fnExactLongestAlarm", fn := fun _ => fun
  | [d1, d2, d3] => { results := [.lit (.bool false)], args := [d1, d2, d3] }
  | _ => none }
def FnExactLongestAlarmWrongFalsely : Prop := fnExactLongestAlarmRow.holds Try.pinned (OpenSpec.ofChange fnExactLongestAlarmWrong)

/-- 'laws.FnExactBadReadings': WHATEVER THE INPUT: true; the input reads as it did. -/
def fnExactBadReadingsSpec : ChangeSpec := { name := "fnExactBadReadings", fn := fun _ => fun
  | [d1, d2, d3] => { results := [.lit (.bool true)], args := [d1, d2, d3] }
  | _ => none }
def fnExactBadReadingsRow : OpenClaim := { program := "ytjfookckobpheaa", sum := "4fbf10febfe4690f61ce9f7e1e05e410e0d96bd918e4da5fa6ef592afd4aee91", func := "loop.example/g00906/laws.FnExactBadReadings", spec := "fnExactBadReadings", apart := false }
def FnExactBadReadingsSaid : Prop := fnExactBadReadingsRow.holds Try.pinned (OpenSpec.ofChange fnExactBadReadingsSpec)

/-- ITS FALSE NEIGHBOUR: 'it returns false'. Refute it at one input. -/
def fnExactBadReadingsWrong : ChangeSpec := { name := "fnExactBadReadings", fn := fun _ => fun
  | [d1, d2, d3] => { results := [.lit (.bool false)], args := [d1, d2, d3] }
  | _ => none }
def FnExactBadReadingsWrongFalsely : Prop := fnExactBadReadingsRow.holds Try.pinned (OpenSpec.ofChange fnExactBadReadingsWrong)

/-- 'laws.FnExactPlugHours': WHATEVER THE INPUT: true; the input reads as it did. -/
def fnExactPlugHoursSpec : ChangeSpec := { name := "fnExactPlugHours", fn := fun _ => fun
  | [d1, d2] => { results := [.lit (.bool true)], args := [d1, d2] }
  | _ => none }
def fnExactPlugHoursRow : OpenClaim := { program := "ytjfookckobpheaa", sum := "4fbf10febfe4690f61ce9f7e1e05e410e0d96bd918e4da5fa6ef592afd4aee91", func := "loop.example/g00906/laws.FnExactPlugHours", spec := "fnExactPlugHours", unfollowed := true, recurses := true, apart := false }
def FnExactPlugHoursSaid : Prop := fnExactPlugHoursRow.holds Try.pinned (OpenSpec.ofChange fnExactPlugHoursSpec)

/-- ITS FALSE NEIGHBOUR: 'it returns false'. Refute it at one input. -/
def fnExactPlugHoursWrong : ChangeSpec := { name := "fnExactPlugHours", fn := fun _ => fun
  | [d1, d2] => { results := [.lit (.bool false)], args := [d1, d2] }
  | _ => none }
def FnExactPlugHoursWrongFalsely : Prop := fnExactPlugHoursRow.holds Try.pinned (OpenSpec.ofChange fnExactPlugHoursWrong)

/-- 'laws.FnExactAddReading': WHATEVER THE INPUT: true; the input reads as it did. -/
def fnExactAddReadingSpec : ChangeSpec := { name := "fnExactAddReading", fn := fun _ => fun
  | [d1, d2] => { results := [.lit (.bool true)], args := [d1, d2] }
  | _ => none }
def fnExactAddReadingRow : OpenClaim := { program := "ytjfookckobpheaa", sum := "4fbf10febfe4690f61ce9f7e1e05e410e0d96bd918e4da5fa6ef592afd4aee91", func := "loop.example/g00906/laws.FnExactAddReading", spec := "fnExactAddReading", inPlace := ["slices.overlaps[loop.example/g00906/impl.Reading]"], apart := false }
def FnExactAddReadingSaid : Prop := fnExactAddReadingRow.holds Try.pinned (OpenSpec.ofChange fnExactAddReadingSpec)

/-- ITS FALSE NEIGHBOUR: 'it returns false'. Refute it at one input. -/
def fnExactAddReadingWrong : ChangeSpec := { name := "fnExactAddReading", fn := fun _ => fun
  | [d1, d2] => { results := [.lit (.bool false)], args := [d1, d2] }
  | _ => none }
def FnExactAddReadingWrongFalsely : Prop := fnExactAddReadingRow.holds Try.pinned (OpenSpec.ofChange fnExactAddReadingWrong)

/-- 'laws.FnPower': WHATEVER THE INPUT: true; the input reads as it did. -/
def fnPowerSpec : ChangeSpec := { name := "fnPower", fn := fun _ => fun
  | [d] => { results := [.lit (.bool true)], args := [d] }
  | _ => none }
def fnPowerRow : OpenClaim := { program := "ytjfookckobpheaa", sum := "4fbf10febfe4690f61ce9f7e1e05e410e0d96bd918e4da5fa6ef592afd4aee91", func := "loop.example/g00906/laws.FnPower", spec := "fnPower", unfollowed := true, recurses := true, apart := false }
def FnPowerSaid : Prop := fnPowerRow.holds Try.pinned (OpenSpec.ofChange fnPowerSpec)

/-- ITS FALSE NEIGHBOUR: 'it returns false'. Refute it at one input. -/
def fnPowerWrong : ChangeSpec := { name := "fnPower", fn := fun _ => fun
  | [d] => { results := [.lit (.bool false)], args := [d] }
  | _ => none }
def FnPowerWrongFalsely : Prop := fnPowerRow.holds Try.pinned (OpenSpec.ofChange fnPowerWrong)

/- THE SECOND FORM. 'bulk': how many values and letters a reading holds, each counted each time it is reached (what is shared counts as often as it is met; a slice's spare places count too). A statement '..UptoSaid' is the law's where the arguments, and the package variables that the reading takes, are together of bulk at most 1048576: NARROWER than '..Said'. Prove '..Said' where nothing that the law and all that it calls make is longer than what came in: it says more and counts as full. Else prove '..UptoSaid'. A law counts once. -/
mutual
def uptoBulk {H : Type} : DataW H → Nat
  | .lit (.string bytes) => bytes.length + 1
  | .lit _ => 1
  | .nil => 1
  | .ptr d => uptoBulk d + 1
  | .slice elems spare => uptoBulkAll elems + uptoBulkAll spare + 1
  | .agg parts => uptoBulkAll parts + 1
  | .iface _ d => uptoBulk d + 1
  | .map entries => uptoBulkEntries entries + 1
  | .held _ => 1
def uptoBulkAll {H : Type} : List (DataW H) → Nat
  | [] => 0
  | d :: r => uptoBulk d + uptoBulkAll r
def uptoBulkEntries {H : Type} : List (Lit × DataW H) → Nat
  | [] => 0
  | x :: r => uptoBulkEntry x + uptoBulkEntries r
def uptoBulkEntry {H : Type} : Lit × DataW H → Nat
  | (.string bytes, d) => bytes.length + uptoBulk d + 1
  | (_, d) => uptoBulk d + 1
 end
def uptoSmall : (H : Type) → List (DataW H) → Bool := fun _ ds => decide (uptoBulkAll ds ≤ 1048576)
def OpenSpec.upto (s : _root_.Go.ChangeSpec) : _root_.Go.OpenSpec := { _root_.Go.OpenSpec.ofChange s with cond := some uptoSmall }

/-- 'laws.FnExactIsValidReadings', WHERE WHAT IT READS IS OF BULK AT MOST 1048576: true; the input reads as it did. -/
def fnExactIsValidReadingsUptoRow : OpenClaim := { program := "ytjfookckobpheaa", sum := "4fbf10febfe4690f61ce9f7e1e05e410e0d96bd918e4da5fa6ef592afd4aee91", func := "loop.example/g00906/laws.FnExactIsValidReadings", spec := "fnExactIsValidReadings", apart := false, narrowed := true }
def FnExactIsValidReadingsUptoSaid : Prop := fnExactIsValidReadingsUptoRow.holds Try.pinned (OpenSpec.upto fnExactIsValidReadingsSpec)

/-- 'laws.FnExactPowerOff', WHERE WHAT IT READS IS OF BULK AT MOST 1048576: true; the input reads as it did. -/
def fnExactPowerOffUptoRow : OpenClaim := { program := "ytjfookckobpheaa", sum := "4fbf10febfe4690f61ce9f7e1e05e410e0d96bd918e4da5fa6ef592afd4aee91", func := "loop.example/g00906/laws.FnExactPowerOff", spec := "fnExactPowerOff", apart := false, narrowed := true }
def FnExactPowerOffUptoSaid : Prop := fnExactPowerOffUptoRow.holds Try.pinned (OpenSpec.upto fnExactPowerOffSpec)

/-- 'laws.FnExactMeanTenth', WHERE WHAT IT READS IS OF BULK AT MOST 1048576: true; the input reads as it did. -/
def fnExactMeanTenthUptoRow : OpenClaim := { program := "ytjfookckobpheaa", sum := "4fbf10febfe4690f61ce9f7e1e05e410e0d96bd918e4da5fa6ef592afd4aee91", func := "loop.example/g00906/laws.FnExactMeanTenth", spec := "fnExactMeanTenth", apart := false, narrowed := true }
def FnExactMeanTenthUptoSaid : Prop := fnExactMeanTenthUptoRow.holds Try.pinned (OpenSpec.upto fnExactMeanTenthSpec)

/-- 'laws.FnExactLongestAlarm', WHERE WHAT IT READS IS OF BULK AT MOST 1048576: true; the input reads as it did. -/
def fnExactLongestAlarmUptoRow : OpenClaim := { program := "ytjfookckobpheaa", sum := "4fbf10febfe4690f61ce9f7e1e05e410e0d96bd918e4da5fa6ef592afd4aee91", func := "loop.example/g00906/laws.FnExactLongestAlarm", spec := "fnExactLongestAlarm", apart := false, narrowed := true }
def FnExactLongestAlarmUptoSaid : Prop := fnExactLongestAlarmUptoRow.holds Try.pinned (OpenSpec.upto fnExactLongestAlarmSpec)

/-- 'laws.FnExactBadReadings', WHERE WHAT IT READS IS OF BULK AT MOST 1048576: true; the input reads as it did. -/
def fnExactBadReadingsUptoRow : OpenClaim := { program := "ytjfookckobpheaa", sum := "4fbf10febfe4690f61ce9f7e1e05e410e0d96bd918e4da5fa6ef592afd4aee91", func := "loop.example/g00906/laws.FnExactBadReadings", spec := "fnExactBadReadings", apart := false, narrowed := true }
def FnExactBadReadingsUptoSaid : Prop := fnExactBadReadingsUptoRow.holds Try.pinned (OpenSpec.upto fnExactBadReadingsSpec)

/-- 'laws.FnExactPlugHours', WHERE WHAT IT READS IS OF BULK AT MOST 1048576: true; the input reads as it did. -/
def fnExactPlugHoursUptoRow : OpenClaim := { program := "ytjfookckobpheaa", sum := "4fbf10febfe4690f61ce9f7e1e05e410e0d96bd918e4da5fa6ef592afd4aee91", func := "loop.example/g00906/laws.FnExactPlugHours", spec := "fnExactPlugHours", unfollowed := true, recurses := true, apart := false, narrowed := true }
def FnExactPlugHoursUptoSaid : Prop := fnExactPlugHoursUptoRow.holds Try.pinned (OpenSpec.upto fnExactPlugHoursSpec)

/-- 'laws.FnExactAddReading', WHERE WHAT IT READS IS OF BULK AT MOST 1048576: true; the input reads as it did. -/
def fnExactAddReadingUptoRow : OpenClaim := { program := "ytjfookckobpheaa", sum := "4fbf10febfe4690f61ce9f7e1e05e410e0d96bd918e4da5fa6ef592afd4aee91", func := "loop.example/g00906/laws.FnExactAddReading", spec := "fnExactAddReading", inPlace := ["slices.overlaps[loop.example/g00906/impl.Reading]"], apart := false, narrowed := true }
def FnExactAddReadingUptoSaid : Prop := fnExactAddReadingUptoRow.holds Try.pinned (OpenSpec.upto fnExactAddReadingSpec)

/-- 'laws.FnPower', WHERE WHAT IT READS IS OF BULK AT MOST 1048576: true; the input reads as it did. -/
def fnPowerUptoRow : OpenClaim := { program := "ytjfookckobpheaa", sum := "4fbf10febfe4690f61ce9f7e1e05e410e0d96bd918e4da5fa6ef592afd4aee91", func := "loop.example/g00906/laws.FnPower", spec := "fnPower", unfollowed := true, recurses := true, apart := false, narrowed := true }
def FnPowerUptoSaid : Prop := fnPowerUptoRow.holds Try.pinned (OpenSpec.upto fnPowerSpec)

end Rows
end Go.Proofs.Ytjfookckobpheaa
