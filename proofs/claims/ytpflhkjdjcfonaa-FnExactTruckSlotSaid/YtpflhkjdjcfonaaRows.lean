/-
  No cell of these rows narrows 'for every input' (looked for: loops, veiled, ifaces, maps, wideKeys, modest, calm, conditions, laid).
  DERIVED. THE GIVEN ROWS OF THIS SEAT. 5 by the template 'for every input the law returns true; each argument reads behind the call as it read before'; 0 by the template 'total and deterministic' (their statements: YtpflhkjdjcfonaaTotals.lean).
  GIVEN WITH THE SEED: the statements are not yours to turn. If you find one false, say at which input.
  Laid BY PROGRAM, IN A SANDBOX (cutbox-rows.mjs): the forced cells as the released guide's own fill.sh prints them over the translation d2f4b2860a505bde… (all of the seat's roots in one cut). By AI agents, Wed Nov 11 2026. No macro, syntax, notation, axiom, sorry.
-/
import Derived.Test.YtpflhkjdjcfonaaChecked
import GoSem.Claim
import GoSem.ClaimJoined
import GoSem.ClaimMapViews
import Derived.JoinedTies
import Derived.KernelRfl
namespace Go.Proofs.Ytpflhkjdjcfonaa
/- THE CELL 'sum', in the pinned program and in every row, IS THE sha256 OF THE DUMP (.gsa) THAT YtpflhkjdjcfonaaProg.lean LOADS. Nothing in Lean hashes anything: it is a label: what it is worth is what the hold of that sum in a sandbox is worth. -/
noncomputable def Try.pinned : Pinned := { name := "ytpflhkjdjcfonaa", sum := "d2f4b2860a505bdee3c697527c28927b04f141630b9026f45afb7201f6d6dad7", checked := Try.checked }
namespace Rows
def none {H : Type} : Left H := { results := [], args := [] }

/-- 'laws.FnExactIsValidGate': WHATEVER THE INPUT: true; the input reads as it did. -/
def fnExactIsValidGateSpec : ChangeSpec := { name := "fnExactIsValidGate", fn := fun _ => fun
  | [d] => { results := [.lit (.bool true)], args := [d] }
  | _ => none }
def fnExactIsValidGateRow : OpenClaim := { program := "ytpflhkjdjcfonaa", sum := "d2f4b2860a505bdee3c697527c28927b04f141630b9026f45afb7201f6d6dad7", func := "loop.example/g00906/laws.FnExactIsValidGate", spec := "fnExactIsValidGate", apart := false }
def FnExactIsValidGateSaid : Prop := fnExactIsValidGateRow.holds Try.pinned (OpenSpec.ofChange fnExactIsValidGateSpec)

/-- ITS FALSE NEIGHBOUR: 'it returns false'. Refute it at one input. -/
def fnExactIsValidGateWrong : ChangeSpec := { name := "fnExactIsValidGate", fn := fun _ => fun
  | [d] => { results := [.lit (.bool false)], args := [d] }
  | _ => none }
def FnExactIsValidGateWrongFalsely : Prop := fnExactIsValidGateRow.holds Try.pinned (OpenSpec.ofChange fnExactIsValidGateWrong)

/-- 'laws.FnExactFreeShare': WHATEVER THE INPUT: true; the input reads as it did. -/
def fnExactFreeShareSpec : ChangeSpec := { name := "fnExactFreeShare", fn := fun _ => fun
  | [d] => { results := [.lit (.bool true)], args := [d] }
  | _ => none }
def fnExactFreeShareRow : OpenClaim := { program := "ytpflhkjdjcfonaa", sum := "d2f4b2860a505bdee3c697527c28927b04f141630b9026f45afb7201f6d6dad7", func := "loop.example/g00906/laws.FnExactFreeShare", spec := "fnExactFreeShare", apart := false }
def FnExactFreeShareSaid : Prop := fnExactFreeShareRow.holds Try.pinned (OpenSpec.ofChange fnExactFreeShareSpec)

/-- ITS FALSE NEIGHBOUR: 'it returns false'. Refute it at one input. -/
def fnExactFreeShareWrong : ChangeSpec := { name := "fnExactFreeShare", fn := fun _ => fun
  | [d] => { results := [.lit (.bool false)], args := [d] }
  | _ => none }
def FnExactFreeShareWrongFalsely : Prop := fnExactFreeShareRow.holds Try.pinned (OpenSpec.ofChange fnExactFreeShareWrong)

/-- 'laws.FnExactTruckSlot': WHATEVER THE INPUT: true; the input reads as it did. -/
def fnExactTruckSlotSpec : ChangeSpec := { name := "fnExactTruckSlot", fn := fun _ => fun
  | [d1, d2] => { results := [.lit (.bool true)], args := [d1, d2] }
  | _ => none }
def fnExactTruckSlotRow : OpenClaim := { program := "ytpflhkjdjcfonaa", sum := "d2f4b2860a505bdee3c697527c28927b04f141630b9026f45afb7201f6d6dad7", func := "loop.example/g00906/laws.FnExactTruckSlot", spec := "fnExactTruckSlot", unfollowed := true, recurses := true, apart := false }
def FnExactTruckSlotSaid : Prop := fnExactTruckSlotRow.holds Try.pinned (OpenSpec.ofChange fnExactTruckSlotSpec)

/-- ITS FALSE NEIGHBOUR: 'it returns false'. Refute it at one input. -/
def fnExactTruckSlotWrong : ChangeSpec := { name := "fnExactTruckSlot", fn := fun _ => fun
  | [d1, d2] => { results := [.lit (.bool false)], args := [d1, d2] }
  | _ => none }
def FnExactTruckSlotWrongFalsely : Prop := fnExactTruckSlotRow.holds Try.pinned (OpenSpec.ofChange fnExactTruckSlotWrong)

/-- 'laws.FnExactSpreadSlots': WHATEVER THE INPUT: true; the input reads as it did. -/
def fnExactSpreadSlotsSpec : ChangeSpec := { name := "fnExactSpreadSlots", fn := fun _ => fun
  | [d] => { results := [.lit (.bool true)], args := [d] }
  | _ => none }
def fnExactSpreadSlotsRow : OpenClaim := { program := "ytpflhkjdjcfonaa", sum := "d2f4b2860a505bdee3c697527c28927b04f141630b9026f45afb7201f6d6dad7", func := "loop.example/g00906/laws.FnExactSpreadSlots", spec := "fnExactSpreadSlots", apart := false }
def FnExactSpreadSlotsSaid : Prop := fnExactSpreadSlotsRow.holds Try.pinned (OpenSpec.ofChange fnExactSpreadSlotsSpec)

/-- ITS FALSE NEIGHBOUR: 'it returns false'. Refute it at one input. -/
def fnExactSpreadSlotsWrong : ChangeSpec := { name := "fnExactSpreadSlots", fn := fun _ => fun
  | [d] => { results := [.lit (.bool false)], args := [d] }
  | _ => none }
def FnExactSpreadSlotsWrongFalsely : Prop := fnExactSpreadSlotsRow.holds Try.pinned (OpenSpec.ofChange fnExactSpreadSlotsWrong)

/-- 'laws.FnExactCancelTruck': WHATEVER THE INPUT: true; the input reads as it did. -/
def fnExactCancelTruckSpec : ChangeSpec := { name := "fnExactCancelTruck", fn := fun _ => fun
  | [d1, d2] => { results := [.lit (.bool true)], args := [d1, d2] }
  | _ => none }
def fnExactCancelTruckRow : OpenClaim := { program := "ytpflhkjdjcfonaa", sum := "d2f4b2860a505bdee3c697527c28927b04f141630b9026f45afb7201f6d6dad7", func := "loop.example/g00906/laws.FnExactCancelTruck", spec := "fnExactCancelTruck", unfollowed := true, recurses := true, apart := false }
def FnExactCancelTruckSaid : Prop := fnExactCancelTruckRow.holds Try.pinned (OpenSpec.ofChange fnExactCancelTruckSpec)

/-- ITS FALSE NEIGHBOUR: 'it returns false'. Refute it at one input. -/
def fnExactCancelTruckWrong : ChangeSpec := { name := "fnExactCancelTruck", fn := fun _ => fun
  | [d1, d2] => { results := [.lit (.bool false)], args := [d1, d2] }
  | _ => none }
def FnExactCancelTruckWrongFalsely : Prop := fnExactCancelTruckRow.holds Try.pinned (OpenSpec.ofChange fnExactCancelTruckWrong)

/- THE SECOND FORM. 'bulk': how many values and letters a reading holds, each counted each time it is reached (what is shared counts as often as it is met; a slice's spare places count too). A statement '..UptoSaid' is the law's where the arguments, and the package variables that the reading takes, are together of bulk at most 1048576: NARROWER than '..Said'. Prove '..Said' where nothing that the law and all that it calls make is longer than what came in: it says more and counts as full. Else prove '..UptoSaid'. A law counts once. -/
mutual
def uptoBulk {H : Type} : DataW H → Nat
  | .lit (.string bytes) => bytes.length + 1
  | .lit _ => 1
  | .nil => 1
  | .ptr d => uptoBulk d + 1
  | .slice elems spare => uptoBulkAll elems + uptoBulkAll spare + 1
  | .agg parts => uptoBulkAll parts + 1
  | .iface _ d => uptoBulk d + 1
  | .map entries => uptoBulkEntries entries + 1
  | .held _ => 1
def uptoBulkAll {H : Type} : List (DataW H) → Nat
  | [] => 0
  | d :: r => uptoBulk d + uptoBulkAll r
def uptoBulkEntries {H : Type} : List (Lit × DataW H) → Nat
  | [] => 0
  | x :: r => uptoBulkEntry x + uptoBulkEntries r
def uptoBulkEntry {H : Type} : Lit × DataW H → Nat
  | (.string bytes, d) => bytes.length + uptoBulk d + 1
  | (_, d) => uptoBulk d + 1
 end
def uptoSmall : (H : Type) → List (DataW H) → Bool := fun _ ds => decide (uptoBulkAll ds ≤ 1048576)
def OpenSpec.upto (s : _root_.Go.ChangeSpec) : _root_.Go.OpenSpec := { _root_.Go.OpenSpec.ofChange s with cond := some uptoSmall }

/-- 'laws.FnExactIsValidGate', WHERE WHAT IT READS IS OF BULK AT MOST 1048576: true; the input reads as it did. -/
def fnExactIsValidGateUptoRow : OpenClaim := { program := "ytpflhkjdjcfonaa", sum := "d2f4b2860a505bdee3c697527c28927b04f141630b9026f45afb7201f6d6dad7", func := "loop.example/g00906/laws.FnExactIsValidGate", spec := "fnExactIsValidGate", apart := false, narrowed := true }
def FnExactIsValidGateUptoSaid : Prop := fnExactIsValidGateUptoRow.holds Try.pinned (OpenSpec.upto fnExactIsValidGateSpec)

/-- 'laws.FnExactFreeShare', WHERE WHAT IT READS IS OF BULK AT MOST 1048576: true; the input reads as it did. -/
def fnExactFreeShareUptoRow : OpenClaim := { program := "ytpflhkjdjcfonaa", sum := "d2f4b2860a505bdee3c697527c28927b04f141630b9026f45afb7201f6d6dad7", func := "loop.example/g00906/laws.FnExactFreeShare", spec := "fnExactFreeShare", apart := false, narrowed := true }
def FnExactFreeShareUptoSaid : Prop := fnExactFreeShareUptoRow.holds Try.pinned (OpenSpec.upto fnExactFreeShareSpec)

/-- 'laws.FnExactTruckSlot', WHERE WHAT IT READS IS OF BULK AT MOST 1048576: true; the input reads as it did. -/
def fnExactTruckSlotUptoRow : OpenClaim := { program := "ytpflhkjdjcfonaa", sum := "d2f4b2860a505bdee3c697527c28927b04f141630b9026f45afb7201f6d6dad7", func := "loop.example/g00906/laws.FnExactTruckSlot", spec := "fnExactTruckSlot", unfollowed := true, recurses := true, apart := false, narrowed := true }
def FnExactTruckSlotUptoSaid : Prop := fnExactTruckSlotUptoRow.holds Try.pinned (OpenSpec.upto fnExactTruckSlotSpec)

/-- 'laws.FnExactSpreadSlots', WHERE WHAT IT READS IS OF BULK AT MOST 1048576: true; the input reads as it did. -/
def fnExactSpreadSlotsUptoRow : OpenClaim := { program := "ytpflhkjdjcfonaa", sum := "d2f4b2860a505bdee3c697527c28927b04f141630b9026f45afb7201f6d6dad7", func := "loop.example/g00906/laws.FnExactSpreadSlots", spec := "fnExactSpreadSlots", apart := false, narrowed := true }
def FnExactSpreadSlotsUptoSaid : Prop := fnExactSpreadSlotsUptoRow.holds Try.pinned (OpenSpec.upto fnExactSpreadSlotsSpec)

/-- 'laws.FnExactCancelTruck', WHERE WHAT IT READS IS OF BULK AT MOST 1048576: true; the input reads as it did. -/
def fnExactCancelTruckUptoRow : OpenClaim := { program := "ytpflhkjdjcfonaa", sum := "d2f4b2860a505bdee3c697527c28927b04f141630b9026f45afb7201f6d6dad7", func := "loop.example/g00906/laws.FnExactCancelTruck", spec := "fnExactCancelTruck", unfollowed := true, recurses := true, apart := false, narrowed := true }
def FnExactCancelTruckUptoSaid : Prop := fnExactCancelTruckUptoRow.holds Try.pinned (OpenSpec.upto fnExactCancelTruckSpec)

end Rows
end Go.Proofs.Ytpflhkjdjcfonaa
