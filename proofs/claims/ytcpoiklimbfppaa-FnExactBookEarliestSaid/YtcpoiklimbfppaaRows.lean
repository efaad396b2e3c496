/-
  No cell of these rows narrows 'for every input' (looked for: loops, veiled, ifaces, maps, wideKeys, modest, calm, conditions, laid).
  DERIVED. THE GIVEN ROWS OF THIS SEAT. 5 by the template 'for every input the law returns true; each argument reads behind the call as it read before'; 0 by the template 'total and deterministic' (their statements: YtcpoiklimbfppaaTotals.lean).
  GIVEN WITH THE SEED: the statements are not yours to turn. If you find one false, say at which input.
  Laid BY PROGRAM, IN A SANDBOX (cutbox-rows.mjs): the forced cells as the released guide's own fill.sh prints them over the translation 0222c7d0c1dfb429… (all of the seat's roots in one cut). By AI agents, Wed Nov 11 2026. No macro, syntax, notation, axiom, sorry.
-/
import Derived.Test.YtcpoiklimbfppaaChecked
import GoSem.Claim
import GoSem.ClaimJoined
import GoSem.ClaimMapViews
import Derived.JoinedTies
import Derived.KernelRfl
namespace Go.Proofs.Ytcpoiklimbfppaa
/- THE CELL 'sum', in the pinned program and in every row, IS THE sha256 OF THE DUMP (.gsa) THAT YtcpoiklimbfppaaProg.lean LOADS. Nothing in Lean hashes anything: it is a label: what it is worth is what the hold of that sum in a sandbox is worth. -/
noncomputable def Try.pinned : Pinned := { name := "ytcpoiklimbfppaa", sum := "0222c7d0c1dfb42965a4e5bf40e34e2e8facc170d9d2fb843b813bfa95f8abb0", checked := Try.checked }
namespace Rows
def none {H : Type} : Left H := { results := [], args := [] }

/-- 'laws.FnExactCancelTruck': WHATEVER THE INPUT: true; the input reads as it did. -/
def fnExactCancelTruckSpec : ChangeSpec := { name := "fnExactCancelTruck", fn := fun _ => fun
  | [d1, d2] => { results := [.lit (.bool true)], args := [d1, d2] }
  | _ => none }
def fnExactCancelTruckRow : OpenClaim := { program := "ytcpoiklimbfppaa", sum := "0222c7d0c1dfb42965a4e5bf40e34e2e8facc170d9d2fb843b813bfa95f8abb0", func := "loop.example/g00906/laws.FnExactCancelTruck", spec := "fnExactCancelTruck", unfollowed := true, recurses := true, apart := false }
def FnExactCancelTruckSaid : Prop := fnExactCancelTruckRow.holds Try.pinned (OpenSpec.ofChange fnExactCancelTruckSpec)

/-- ITS FALSE NEIGHBOUR: 'it returns false'. Refute it at one input. -/
def fnExactCancelTruckWrong : ChangeSpec := { name := "fnExactCancelTruck", fn := fun _ => fun
  | [d1, d2] => { results := [.lit (.bool false)], args := [d1, d2] }
  | _ => none }
def FnExactCancelTruckWrongFalsely : Prop := fnExactCancelTruckRow.holds Try.pinned (OpenSpec.ofChange fnExactCancelTruckWrong)

/-- 'laws.FnExactBookSlot': WHATEVER THE INPUT: true; the input reads as it did. -/
def fnExactBookSlotSpec : ChangeSpec := { name := "fnExactBookSlot", fn := fun _ => fun
  | [d1, d2, d3] => { results := [.lit (.bool true)], args := [d1, d2, d3] }
  | _ => none }
def fnExactBookSlotRow : OpenClaim := { program := "ytcpoiklimbfppaa", sum := "0222c7d0c1dfb42965a4e5bf40e34e2e8facc170d9d2fb843b813bfa95f8abb0", func := "loop.example/g00906/laws.FnExactBookSlot", spec := "fnExactBookSlot", unfollowed := true, recurses := true, apart := false }
def FnExactBookSlotSaid : Prop := fnExactBookSlotRow.holds Try.pinned (OpenSpec.ofChange fnExactBookSlotSpec)

/-- ITS FALSE NEIGHBOUR: 'it returns false'. Refute it at one input. -/
def fnExactBookSlotWrong : ChangeSpec := { name := "fnExactBookSlot", fn := fun _ => fun
  | [d1, d2, d3] => { results := [.lit (.bool false)], args := [d1, d2, d3] }
  | _ => none }
def FnExactBookSlotWrongFalsely : Prop := fnExactBookSlotRow.holds Try.pinned (OpenSpec.ofChange fnExactBookSlotWrong)

/-- 'laws.FnExactBookEarliest': WHATEVER THE INPUT: true; the input reads as it did. -/
def fnExactBookEarliestSpec : ChangeSpec := { name := "fnExactBookEarliest", fn := fun _ => fun
  | [d1, d2, d3, d4] => { results := [.lit (.bool true)], args := [d1, d2, d3, d4] }
  | _ => none }
def fnExactBookEarliestRow : OpenClaim := { program := "ytcpoiklimbfppaa", sum := "0222c7d0c1dfb42965a4e5bf40e34e2e8facc170d9d2fb843b813bfa95f8abb0", func := "loop.example/g00906/laws.FnExactBookEarliest", spec := "fnExactBookEarliest", unfollowed := true, recurses := true, apart := false }
def FnExactBookEarliestSaid : Prop := fnExactBookEarliestRow.holds Try.pinned (OpenSpec.ofChange fnExactBookEarliestSpec)

/-- ITS FALSE NEIGHBOUR: 'it returns false'. Refute it at one input. -/
def fnExactBookEarliestWrong : ChangeSpec := { name := "fnExactBookEarliest", fn := fun _ => fun
  | [d1, d2, d3, d4] => { results := [.lit (.bool false)], args := [d1, d2, d3, d4] }
  | _ => none }
def FnExactBookEarliestWrongFalsely : Prop := fnExactBookEarliestRow.holds Try.pinned (OpenSpec.ofChange fnExactBookEarliestWrong)

/-- 'laws.FnExactMoveTruck': WHATEVER THE INPUT: true; the input reads as it did. -/
def fnExactMoveTruckSpec : ChangeSpec := { name := "fnExactMoveTruck", fn := fun _ => fun
  | [d1, d2, d3] => { results := [.lit (.bool true)], args := [d1, d2, d3] }
  | _ => none }
def fnExactMoveTruckRow : OpenClaim := { program := "ytcpoiklimbfppaa", sum := "0222c7d0c1dfb42965a4e5bf40e34e2e8facc170d9d2fb843b813bfa95f8abb0", func := "loop.example/g00906/laws.FnExactMoveTruck", spec := "fnExactMoveTruck", unfollowed := true, recurses := true, apart := false }
def FnExactMoveTruckSaid : Prop := fnExactMoveTruckRow.holds Try.pinned (OpenSpec.ofChange fnExactMoveTruckSpec)

/-- ITS FALSE NEIGHBOUR: 'it returns false'. Refute it at one input. -/
def fnExactMoveTruckWrong : ChangeSpec := { name := "fnExactMoveTruck", fn := fun _ => fun
  | [d1, d2, d3] => { results := [.lit (.bool false)], args := [d1, d2, d3] }
  | _ => none }
def FnExactMoveTruckWrongFalsely : Prop := fnExactMoveTruckRow.holds Try.pinned (OpenSpec.ofChange fnExactMoveTruckWrong)

/-- 'laws.FnExactCloseSlot': WHATEVER THE INPUT: true; the input reads as it did. -/
def fnExactCloseSlotSpec : ChangeSpec := { name := "fnExactCloseSlot", fn := fun _ => fun
  | [d1, d2] => { results := [.lit (.bool true)], args := [d1, d2] }
  | _ => none }
def fnExactCloseSlotRow : OpenClaim := { program := "ytcpoiklimbfppaa", sum := "0222c7d0c1dfb42965a4e5bf40e34e2e8facc170d9d2fb843b813bfa95f8abb0", func := "loop.example/g00906/laws.FnExactCloseSlot", spec := "fnExactCloseSlot", unfollowed := true, recurses := true, apart := false }
def FnExactCloseSlotSaid : Prop := fnExactCloseSlotRow.holds Try.pinned (OpenSpec.ofChange fnExactCloseSlotSpec)

/-- ITS FALSE NEIGHBOUR: 'it returns false'. Refute it at one input. -/
def fnExactCloseSlotWrong : ChangeSpec := { name := "fnExactCloseSlot", fn := fun _ => fun
  | [d1, d2] => { results := [.lit (.bool false)], args := [d1, d2] }
  | _ => none }
def FnExactCloseSlotWrongFalsely : Prop := fnExactCloseSlotRow.holds Try.pinned (OpenSpec.ofChange fnExactCloseSlotWrong)

/- THE SECOND FORM. 'bulk': how many values and letters a reading holds, each counted each time it is reached (what is shared counts as often as it is met; a slice's spare places count too). A statement '..UptoSaid' is the law's where the arguments, and the package variables that the reading takes, are together of bulk at most 1048576: NARROWER than '..Said'. Prove '..Said' where nothing that the law and all that it calls make is longer than what came in: it says more and counts as full. Else prove '..UptoSaid'. A law counts once. -/
mutual
def uptoBulk {H : Type} : DataW H → Nat
  | .lit (.string bytes) => bytes.length + 1
  | .lit _ => 1
  | .nil => 1
  | .ptr d => uptoBulk d + 1
  | .slice elems spare => uptoBulkAll elems + uptoBulkAll spare + 1
  | .agg parts => uptoBulkAll parts + 1
  | .iface _ d => uptoBulk d + 1
  | .map entries => uptoBulkEntries entries + 1
  | .held _ => 1
def uptoBulkAll {H : Type} : List (DataW H) → Nat
  | [] => 0
  | d :: r => uptoBulk d + uptoBulkAll r
def uptoBulkEntries {H : Type} : List (Lit × DataW H) → Nat
  | [] => 0
  | x :: r => uptoBulkEntry x + uptoBulkEntries r
def uptoBulkEntry {H : Type} : Lit × DataW H → Nat
  | (.string bytes, d) => bytes.length + uptoBulk d + 1
  | (_, d) => uptoBulk d + 1
 end
def uptoSmall : (H : Type) → List (DataW H) → Bool := fun _ ds => decide (uptoBulkAll ds ≤ 1048576)
def OpenSpec.upto (s : _root_.Go.ChangeSpec) : _root_.Go.OpenSpec := { _root_.Go.OpenSpec.ofChange s with cond := some uptoSmall }

/-- 'laws.FnExactCancelTruck', WHERE WHAT IT READS IS OF BULK AT MOST 1048576: true; the input reads as it did. -/
def fnExactCancelTruckUptoRow : OpenClaim := { program := "ytcpoiklimbfppaa", sum := "0222c7d0c1dfb42965a4e5bf40e34e2e8facc170d9d2fb843b813bfa95f8abb0", func := "loop.example/g00906/laws.FnExactCancelTruck", spec := "fnExactCancelTruck", unfollowed := true, recurses := true, apart := false, narrowed := true }
def FnExactCancelTruckUptoSaid : Prop := fnExactCancelTruckUptoRow.holds Try.pinned (OpenSpec.upto fnExactCancelTruckSpec)

/-- 'laws.FnExactBookSlot', WHERE WHAT IT READS IS OF BULK AT MOST 1048576: true; the input reads as it did. -/
def fnExactBookSlotUptoRow : OpenClaim := { program := "ytcpoiklimbfppaa", sum := "0222c7d0c1dfb42965a4e5bf40e34e2e8facc170d9d2fb843b813bfa95f8abb0", func := "loop.example/g00906/laws.FnExactBookSlot", spec := "fnExactBookSlot", unfollowed := true, recurses := true, apart := false, narrowed := true }
def FnExactBookSlotUptoSaid : Prop := fnExactBookSlotUptoRow.holds Try.pinned (OpenSpec.upto fnExactBookSlotSpec)

/-- 'laws.FnExactBookEarliest', WHERE WHAT IT READS IS OF BULK AT MOST 1048576: true; the input reads as it did. -/
def fnExactBookEarliestUptoRow : OpenClaim := { program := "ytcpoiklimbfppaa", sum := "0222c7d0c1dfb42965a4e5bf40e34e2e8facc170d9d2fb843b813bfa95f8abb0", func := "loop.example/g00906/laws.FnExactBookEarliest", spec := "fnExactBookEarliest", unfollowed := true, recurses := true, apart := false, narrowed := true }
def FnExactBookEarliestUptoSaid : Prop := fnExactBookEarliestUptoRow.holds Try.pinned (OpenSpec.upto fnExactBookEarliestSpec)

/-- 'laws.FnExactMoveTruck', WHERE WHAT IT READS IS OF BULK AT MOST 1048576: true; the input reads as it did. -/
def fnExactMoveTruckUptoRow : OpenClaim := { program := "ytcpoiklimbfppaa", sum := "0222c7d0c1dfb42965a4e5bf40e34e2e8facc170d9d2fb843b813bfa95f8abb0", func := "loop.example/g00906/laws.FnExactMoveTruck", spec := "fnExactMoveTruck", unfollowed := true, recurses := true, apart := false, narrowed := true }
def FnExactMoveTruckUptoSaid : Prop := fnExactMoveTruckUptoRow.holds Try.pinned (OpenSpec.upto fnExactMoveTruckSpec)

/-- 'laws.FnExactCloseSlot', WHERE WHAT IT READS IS OF BULK AT MOST 1048576: true; the input reads as it did. -/
def fnExactCloseSlotUptoRow : OpenClaim := { program := "ytcpoiklimbfppaa", sum := "0222c7d0c1dfb42965a4e5bf40e34e2e8facc170d9d2fb843b813bfa95f8abb0", func := "loop.example/g00906/laws.FnExactCloseSlot", spec := "fnExactCloseSlot", unfollowed := true, recurses := true, apart := false, narrowed := true }
def FnExactCloseSlotUptoSaid : Prop := fnExactCloseSlotUptoRow.holds Try.pinned (OpenSpec.upto fnExactCloseSlotSpec)

end Rows
end Go.Proofs.Ytcpoiklimbfppaa
