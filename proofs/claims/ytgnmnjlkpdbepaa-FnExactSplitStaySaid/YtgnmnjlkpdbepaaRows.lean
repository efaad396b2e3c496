/-
  No cell of these rows narrows 'for every input' (looked for: loops, veiled, ifaces, maps, wideKeys, modest, calm, conditions, laid).
  DERIVED. THE GIVEN ROWS OF THIS SEAT. 9 by the template 'for every input the law returns true; each argument reads behind the call as it read before'; 0 by the template 'total and deterministic' (their statements: YtgnmnjlkpdbepaaTotals.lean).
  GIVEN WITH THE SEED: the statements are not yours to turn. If you find one false, say at which input.
  Laid BY PROGRAM, IN A SANDBOX (cutbox-rows.mjs): the forced cells as the released guide's own fill.sh prints them over the translation 7fd3840da0a39143… (all of the seat's roots in one cut). By AI agents, Wed Nov 11 2026. No macro, syntax, notation, axiom, sorry.
-/
import Derived.Test.YtgnmnjlkpdbepaaChecked
import GoSem.Claim
import GoSem.ClaimJoined
import GoSem.ClaimMapViews
import Derived.JoinedTies
import Derived.KernelRfl
namespace Go.Proofs.Ytgnmnjlkpdbepaa
/- THE CELL 'sum', in the pinned program and in every row, IS THE sha256 OF THE DUMP (.gsa) THAT YtgnmnjlkpdbepaaProg.lean LOADS. Nothing in Lean hashes anything: it is a label: what it is worth is what the hold of that sum in a sandbox is worth. -/
noncomputable def Try.pinned : Pinned := { name := "ytgnmnjlkpdbepaa", sum := "7fd3840da0a39143bf8951dfd4f4c6f4772250baea4037b3dc9bd873d7d52cb0", checked := Try.checked }
namespace Rows
def none {H : Type} : Left H := { results := [], args := [] }

/-- 'laws.FnExactIsValidCharge': WHATEVER THE INPUT: true; the input reads as it did. -/
def fnExactIsValidChargeSpec : ChangeSpec := { name := "fnExactIsValidCharge", fn := fun _ => fun
  | [d] => { results := [.lit (.bool true)], args := [d] }
  | _ => none }
def fnExactIsValidChargeRow : OpenClaim := { program := "ytgnmnjlkpdbepaa", sum := "7fd3840da0a39143bf8951dfd4f4c6f4772250baea4037b3dc9bd873d7d52cb0", func := "loop.example/g00906/laws.FnExactIsValidCharge", spec := "fnExactIsValidCharge", unfollowed := true, recurses := true, apart := false }
def FnExactIsValidChargeSaid : Prop := fnExactIsValidChargeRow.holds Try.pinned (OpenSpec.ofChange fnExactIsValidChargeSpec)

/-- ITS FALSE NEIGHBOUR: 'it returns false'. Refute it at one input. -/
def fnExactIsValidChargeWrong : ChangeSpec := { name := "fnExactIsValidCharge", fn := fun _ => fun
  | [d] => { results := [.lit (.bool false)], args := [d] }
  | _ => none }
def FnExactIsValidChargeWrongFalsely : Prop := fnExactIsValidChargeRow.holds Try.pinned (OpenSpec.ofChange fnExactIsValidChargeWrong)

/-- 'laws.FnExactStepOn': WHATEVER THE INPUT: true; the input reads as it did. -/
def fnExactStepOnSpec : ChangeSpec := { name := "fnExactStepOn", fn := fun _ => fun
  | [d1, d2] => { results := [.lit (.bool true)], args := [d1, d2] }
  | _ => none }
def fnExactStepOnRow : OpenClaim := { program := "ytgnmnjlkpdbepaa", sum := "7fd3840da0a39143bf8951dfd4f4c6f4772250baea4037b3dc9bd873d7d52cb0", func := "loop.example/g00906/laws.FnExactStepOn", spec := "fnExactStepOn", unfollowed := true, recurses := true, apart := false }
def FnExactStepOnSaid : Prop := fnExactStepOnRow.holds Try.pinned (OpenSpec.ofChange fnExactStepOnSpec)

/-- ITS FALSE NEIGHBOUR: 'it returns false'. Refute it at one input. -/
def fnExactStepOnWrong : ChangeSpec := { name := "fnExactStepOn", fn := fun _ => fun
  | [d1, d2] => { results := [.lit (.bool false)], args := [d1, d2] }
  | _ => none }
def FnExactStepOnWrongFalsely : Prop := fnExactStepOnRow.holds Try.pinned (OpenSpec.ofChange fnExactStepOnWrong)

/-- 'laws.FnExactRateOn': WHATEVER THE INPUT: true; the input reads as it did. -/
def fnExactRateOnSpec : ChangeSpec := { name := "fnExactRateOn", fn := fun _ => fun
  | [d1, d2] => { results := [.lit (.bool true)], args := [d1, d2] }
  | _ => none }
def fnExactRateOnRow : OpenClaim := { program := "ytgnmnjlkpdbepaa", sum := "7fd3840da0a39143bf8951dfd4f4c6f4772250baea4037b3dc9bd873d7d52cb0", func := "loop.example/g00906/laws.FnExactRateOn", spec := "fnExactRateOn", unfollowed := true, recurses := true, apart := false }
def FnExactRateOnSaid : Prop := fnExactRateOnRow.holds Try.pinned (OpenSpec.ofChange fnExactRateOnSpec)

/-- ITS FALSE NEIGHBOUR: 'it returns false'. Refute it at one input. -/
def fnExactRateOnWrong : ChangeSpec := { name := "fnExactRateOn", fn := fun _ => fun
  | [d1, d2] => { results := [.lit (.bool false)], args := [d1, d2] }
  | _ => none }
def FnExactRateOnWrongFalsely : Prop := fnExactRateOnRow.holds Try.pinned (OpenSpec.ofChange fnExactRateOnWrong)

/-- 'laws.FnExactAddFreeDays': WHATEVER THE INPUT: true; the input reads as it did. -/
def fnExactAddFreeDaysSpec : ChangeSpec := { name := "fnExactAddFreeDays", fn := fun _ => fun
  | [d1, d2] => { results := [.lit (.bool true)], args := [d1, d2] }
  | _ => none }
def fnExactAddFreeDaysRow : OpenClaim := { program := "ytgnmnjlkpdbepaa", sum := "7fd3840da0a39143bf8951dfd4f4c6f4772250baea4037b3dc9bd873d7d52cb0", func := "loop.example/g00906/laws.FnExactAddFreeDays", spec := "fnExactAddFreeDays", unfollowed := true, recurses := true, apart := false }
def FnExactAddFreeDaysSaid : Prop := fnExactAddFreeDaysRow.holds Try.pinned (OpenSpec.ofChange fnExactAddFreeDaysSpec)

/-- ITS FALSE NEIGHBOUR: 'it returns false'. Refute it at one input. -/
def fnExactAddFreeDaysWrong : ChangeSpec := { name := "fnExactAddFreeDays", fn := fun _ => fun
  | [d1, d2] => { results := [.lit (.bool false)], args := [d1, d2] }
  | _ => none }
def FnExactAddFreeDaysWrongFalsely : Prop := fnExactAddFreeDaysRow.holds Try.pinned (OpenSpec.ofChange fnExactAddFreeDaysWrong)

/-- 'laws.FnExactStayCharge': WHATEVER THE INPUT: true; the input reads as it did. -/
def fnExactStayChargeSpec : ChangeSpec := { name := "fnExactStayCharge", fn := fun _ => fun
  | [d1, d2, d3] => { results := [.lit (.bool true)], args := [d1, d2, d3] }
  | _ => none }
def fnExactStayChargeRow : OpenClaim := { program := "ytgnmnjlkpdbepaa", sum := "7fd3840da0a39143bf8951dfd4f4c6f4772250baea4037b3dc9bd873d7d52cb0", func := "loop.example/g00906/laws.FnExactStayCharge", spec := "fnExactStayCharge", unfollowed := true, recurses := true, apart := false }
def FnExactStayChargeSaid : Prop := fnExactStayChargeRow.holds Try.pinned (OpenSpec.ofChange fnExactStayChargeSpec)

/-- ITS FALSE NEIGHBOUR: 'it returns false'. Refute it at one input. -/
def fnExactStayChargeWrong : ChangeSpec := { name := "fnExactStayCharge", fn := fun _ => fun
  | [d1, d2, d3] => { results := [.lit (.bool false)], args := [d1, d2, d3] }
  | _ => none }
def FnExactStayChargeWrongFalsely : Prop := fnExactStayChargeRow.holds Try.pinned (OpenSpec.ofChange fnExactStayChargeWrong)

/-- 'laws.FnExactLongestStay': WHATEVER THE INPUT: true; the input reads as it did. -/
def fnExactLongestStaySpec : ChangeSpec := { name := "fnExactLongestStay", fn := fun _ => fun
  | [d1, d2, d3] => { results := [.lit (.bool true)], args := [d1, d2, d3] }
  | _ => none }
def fnExactLongestStayRow : OpenClaim := { program := "ytgnmnjlkpdbepaa", sum := "7fd3840da0a39143bf8951dfd4f4c6f4772250baea4037b3dc9bd873d7d52cb0", func := "loop.example/g00906/laws.FnExactLongestStay", spec := "fnExactLongestStay", unfollowed := true, recurses := true, apart := false }
def FnExactLongestStaySaid : Prop := fnExactLongestStayRow.holds Try.pinned (OpenSpec.ofChange fnExactLongestStaySpec)

/-- ITS FALSE NEIGHBOUR: 'it returns false'. Refute it at one input. -/
def fnExactLongestStayWrong : ChangeSpec := { name := "fnExactLongestStay", fn := fun _ => fun
  | [d1, d2, d3] => { results := [.lit (.bool false)], args := [d1, d2, d3] }
  | _ => none }
def FnExactLongestStayWrongFalsely : Prop := fnExactLongestStayRow.holds Try.pinned (OpenSpec.ofChange fnExactLongestStayWrong)

/-- 'laws.FnExactCheaperCharge': WHATEVER THE INPUT: true; the input reads as it did. -/
def fnExactCheaperChargeSpec : ChangeSpec := { name := "fnExactCheaperCharge", fn := fun _ => fun
  | [d1, d2, d3, d4] => { results := [.lit (.bool true)], args := [d1, d2, d3, d4] }
  | _ => none }
def fnExactCheaperChargeRow : OpenClaim := { program := "ytgnmnjlkpdbepaa", sum := "7fd3840da0a39143bf8951dfd4f4c6f4772250baea4037b3dc9bd873d7d52cb0", func := "loop.example/g00906/laws.FnExactCheaperCharge", spec := "fnExactCheaperCharge", unfollowed := true, recurses := true, apart := false }
def FnExactCheaperChargeSaid : Prop := fnExactCheaperChargeRow.holds Try.pinned (OpenSpec.ofChange fnExactCheaperChargeSpec)

/-- ITS FALSE NEIGHBOUR: 'it returns false'. Refute it at one input. -/
def fnExactCheaperChargeWrong : ChangeSpec := { name := "fnExactCheaperCharge", fn := fun _ => fun
  | [d1, d2, d3, d4] => { results := [.lit (.bool false)], args := [d1, d2, d3, d4] }
  | _ => none }
def FnExactCheaperChargeWrongFalsely : Prop := fnExactCheaperChargeRow.holds Try.pinned (OpenSpec.ofChange fnExactCheaperChargeWrong)

/-- 'laws.FnExactSplitStay': WHATEVER THE INPUT: true; the input reads as it did. -/
def fnExactSplitStaySpec : ChangeSpec := { name := "fnExactSplitStay", fn := fun _ => fun
  | [d1, d2] => { results := [.lit (.bool true)], args := [d1, d2] }
  | _ => none }
def fnExactSplitStayRow : OpenClaim := { program := "ytgnmnjlkpdbepaa", sum := "7fd3840da0a39143bf8951dfd4f4c6f4772250baea4037b3dc9bd873d7d52cb0", func := "loop.example/g00906/laws.FnExactSplitStay", spec := "fnExactSplitStay", unfollowed := true, recurses := true, apart := false }
def FnExactSplitStaySaid : Prop := fnExactSplitStayRow.holds Try.pinned (OpenSpec.ofChange fnExactSplitStaySpec)

/-- ITS FALSE NEIGHBOUR: 'it returns false'. Refute it at one input. -/
def fnExactSplitStayWrong : ChangeSpec := { name := "fnExactSplitStay", fn := fun _ => fun
  | [d1, d2] => { results := [.lit (.bool false)], args := [d1, d2] }
  | _ => none }
def FnExactSplitStayWrongFalsely : Prop := fnExactSplitStayRow.holds Try.pinned (OpenSpec.ofChange fnExactSplitStayWrong)

/-- 'laws.FnCharges': WHATEVER THE INPUT: true; the input reads as it did. -/
def fnChargesSpec : ChangeSpec := { name := "fnCharges", fn := fun _ => fun
  | [d] => { results := [.lit (.bool true)], args := [d] }
  | _ => none }
def fnChargesRow : OpenClaim := { program := "ytgnmnjlkpdbepaa", sum := "7fd3840da0a39143bf8951dfd4f4c6f4772250baea4037b3dc9bd873d7d52cb0", func := "loop.example/g00906/laws.FnCharges", spec := "fnCharges", unfollowed := true, recurses := true, apart := false }
def FnChargesSaid : Prop := fnChargesRow.holds Try.pinned (OpenSpec.ofChange fnChargesSpec)

/-- ITS FALSE NEIGHBOUR: 'it returns false'. Refute it at one input. -/
def fnChargesWrong : ChangeSpec := { name := "fnCharges", fn := fun _ => fun
  | [d] => { results := [.lit (.bool false)], args := [d] }
  | _ => none }
def FnChargesWrongFalsely : Prop := fnChargesRow.holds Try.pinned (OpenSpec.ofChange fnChargesWrong)

/- THE SECOND FORM. 'bulk': how many values and letters a reading holds, each counted each time it is reached (what is shared counts as often as it is met; a slice's spare places count too). A statement '..UptoSaid' is the law's where the arguments, and the package variables that the reading takes, are together of bulk at most 1048576: NARROWER than '..Said'. Prove '..Said' where nothing that the law and all that it calls make is longer than what came in: it says more and counts as full. Else prove '..UptoSaid'. A law counts once. -/
mutual
def uptoBulk {H : Type} : DataW H → Nat
  | .lit (.string bytes) => bytes.length + 1
  | .lit _ => 1
  | .nil => 1
  | .ptr d => uptoBulk d + 1
  | .slice elems spare => uptoBulkAll elems + uptoBulkAll spare + 1
  | .agg parts => uptoBulkAll parts + 1
  | .iface _ d => uptoBulk d + 1
  | .map entries => uptoBulkEntries entries + 1
  | .held _ => 1
def uptoBulkAll {H : Type} : List (DataW H) → Nat
  | [] => 0
  | d :: r => uptoBulk d + uptoBulkAll r
def uptoBulkEntries {H : Type} : List (Lit × DataW H) → Nat
  | [] => 0
  | x :: r => uptoBulkEntry x + uptoBulkEntries r
def uptoBulkEntry {H : Type} : Lit × DataW H → Nat
  | (.string bytes, d) => bytes.length + uptoBulk d + 1
  | (_, d) => uptoBulk d + 1
 end
def uptoSmall : (H : Type) → List (DataW H) → Bool := fun _ ds => decide (uptoBulkAll ds ≤ 1048576)
def OpenSpec.upto (s : _root_.Go.ChangeSpec) : _root_.Go.OpenSpec := { _root_.Go.OpenSpec.ofChange s with cond := some uptoSmall }

/-- 'laws.FnExactIsValidCharge', WHERE WHAT IT READS IS OF BULK AT MOST 1048576: true; the input reads as it did. -/
def fnExactIsValidChargeUptoRow : OpenClaim := { program := "ytgnmnjlkpdbepaa", sum := "7fd3840da0a39143bf8951dfd4f4c6f4772250baea4037b3dc9bd873d7d52cb0", func := "loop.example/g00906/laws.FnExactIsValidCharge", spec := "fnExactIsValidCharge", unfollowed := true, recurses := true, apart := false, narrowed := true }
def FnExactIsValidChargeUptoSaid : Prop := fnExactIsValidChargeUptoRow.holds Try.pinned (OpenSpec.upto fnExactIsValidChargeSpec)

/-- 'laws.FnExactStepOn', WHERE WHAT IT READS IS OF BULK AT MOST 1048576: true; the input reads as it did. -/
def fnExactStepOnUptoRow : OpenClaim := { program := "ytgnmnjlkpdbepaa", sum := "7fd3840da0a39143bf8951dfd4f4c6f4772250baea4037b3dc9bd873d7d52cb0", func := "loop.example/g00906/laws.FnExactStepOn", spec := "fnExactStepOn", unfollowed := true, recurses := true, apart := false, narrowed := true }
def FnExactStepOnUptoSaid : Prop := fnExactStepOnUptoRow.holds Try.pinned (OpenSpec.upto fnExactStepOnSpec)

/-- 'laws.FnExactRateOn', WHERE WHAT IT READS IS OF BULK AT MOST 1048576: true; the input reads as it did. -/
def fnExactRateOnUptoRow : OpenClaim := { program := "ytgnmnjlkpdbepaa", sum := "7fd3840da0a39143bf8951dfd4f4c6f4772250baea4037b3dc9bd873d7d52cb0", func := "loop.example/g00906/laws.FnExactRateOn", spec := "fnExactRateOn", unfollowed := true, recurses := true, apart := false, narrowed := true }
def FnExactRateOnUptoSaid : Prop := fnExactRateOnUptoRow.holds Try.pinned (OpenSpec.upto fnExactRateOnSpec)

/-- 'laws.FnExactAddFreeDays', WHERE WHAT IT READS IS OF BULK AT MOST 1048576: true; the input reads as it did. -/
def fnExactAddFreeDaysUptoRow : OpenClaim := { program := "ytgnmnjlkpdbepaa", sum := "7fd3840da0a39143bf8951dfd4f4c6f4772250baea4037b3dc9bd873d7d52cb0", func := "loop.example/g00906/laws.FnExactAddFreeDays", spec := "fnExactAddFreeDays", unfollowed := true, recurses := true, apart := false, narrowed := true }
def FnExactAddFreeDaysUptoSaid : Prop := fnExactAddFreeDaysUptoRow.holds Try.pinned (OpenSpec.upto fnExactAddFreeDaysSpec)

/-- 'laws.FnExactStayCharge', WHERE WHAT IT READS IS OF BULK AT MOST 1048576: true; the input reads as it did. -/
def fnExactStayChargeUptoRow : OpenClaim := { program := "ytgnmnjlkpdbepaa", sum := "7fd3840da0a39143bf8951dfd4f4c6f4772250baea4037b3dc9bd873d7d52cb0", func := "loop.example/g00906/laws.FnExactStayCharge", spec := "fnExactStayCharge", unfollowed := true, recurses := true, apart := false, narrowed := true }
def FnExactStayChargeUptoSaid : Prop := fnExactStayChargeUptoRow.holds Try.pinned (OpenSpec.upto fnExactStayChargeSpec)

/-- 'laws.FnExactLongestStay', WHERE WHAT IT READS IS OF BULK AT MOST 1048576: true; the input reads as it did. -/
def fnExactLongestStayUptoRow : OpenClaim := { program := "ytgnmnjlkpdbepaa", sum := "7fd3840da0a39143bf8951dfd4f4c6f4772250baea4037b3dc9bd873d7d52cb0", func := "loop.example/g00906/laws.FnExactLongestStay", spec := "fnExactLongestStay", unfollowed := true, recurses := true, apart := false, narrowed := true }
def FnExactLongestStayUptoSaid : Prop := fnExactLongestStayUptoRow.holds Try.pinned (OpenSpec.upto fnExactLongestStaySpec)

/-- 'laws.FnExactCheaperCharge', WHERE WHAT IT READS IS OF BULK AT MOST 1048576: true; the input reads as it did. -/
def fnExactCheaperChargeUptoRow : OpenClaim := { program := "ytgnmnjlkpdbepaa", sum := "7fd3840da0a39143bf8951dfd4f4c6f4772250baea4037b3dc9bd873d7d52cb0", func := "loop.example/g00906/laws.FnExactCheaperCharge", spec := "fnExactCheaperCharge", unfollowed := true, recurses := true, apart := false, narrowed := true }
def FnExactCheaperChargeUptoSaid : Prop := fnExactCheaperChargeUptoRow.holds Try.pinned (OpenSpec.upto fnExactCheaperChargeSpec)

/-- 'laws.FnExactSplitStay', WHERE WHAT IT READS IS OF BULK AT MOST 1048576: true; the input reads as it did. -/
def fnExactSplitStayUptoRow : OpenClaim := { program := "ytgnmnjlkpdbepaa", sum := "7fd3840da0a39143bf8951dfd4f4c6f4772250baea4037b3dc9bd873d7d52cb0", func := "loop.example/g00906/laws.FnExactSplitStay", spec := "fnExactSplitStay", unfollowed := true, recurses := true, apart := false, narrowed := true }
def FnExactSplitStayUptoSaid : Prop := fnExactSplitStayUptoRow.holds Try.pinned (OpenSpec.upto fnExactSplitStaySpec)

/-- 'laws.FnCharges', WHERE WHAT IT READS IS OF BULK AT MOST 1048576: true; the input reads as it did. -/
def fnChargesUptoRow : OpenClaim := { program := "ytgnmnjlkpdbepaa", sum := "7fd3840da0a39143bf8951dfd4f4c6f4772250baea4037b3dc9bd873d7d52cb0", func := "loop.example/g00906/laws.FnCharges", spec := "fnCharges", unfollowed := true, recurses := true, apart := false, narrowed := true }
def FnChargesUptoSaid : Prop := fnChargesUptoRow.holds Try.pinned (OpenSpec.upto fnChargesSpec)

end Rows
end Go.Proofs.Ytgnmnjlkpdbepaa
