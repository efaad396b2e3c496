/-
  DERIVED. GIVEN WITH THE SEED: THE CARDS: each row of YthogpinmmddicaaDoorRows.lean that lists a variable, with what it lists TIED to the program's text (the seventh form; the later family's looks); each row that meets fmt, with fmt's text TOLD by the authors' own Lean function (tested against real Go, not proved from fmt's source: count such statements apart). THE CARD IS WHAT COUNTS. Prove the row's statement (the work); the ties are given (YthogpinmmddicaaDoorTie.lean); close each card by the builder's one call (the guide's Derived/Test/ToyasCard.lean, 'card_holds'). Laid BY PROGRAM, IN A SANDBOX (cutbox-door.mjs). By AI agents, Wed Nov 11 2026. No macro, syntax, notation, axiom, sorry.
-/
import Derived.Test.YthogpinmmddicaaDoorRows
import GoSem.ClaimSeven
namespace Go.Proofs.YthogpinmmddicaaDoor
namespace Rows

/-- THE TIED CARD OF 'laws.FnExactParseCharge'. -/
def fnExactParseChargeCard : Claim7 := { stood := { row := fnExactParseChargeRow, standIns := [], harness := (true, "ed9ea96b6f3a7c733039de5f51372fbf0600ceecf4993434923d448a9022e57f"), looks := true }, kinds := [], alts := [], laidByText := true, laidKinds := [.data, .data, .data, .data, .sentinel, .sentinel, .pinned], laidTests := true, laidLooks := .later }
def FnExactParseChargeCardSaid : Prop := Claim7.holds Tryd.pinned (.plain (OpenSpec.ofChange fnExactParseChargeSpec)) fnExactParseChargeCard

/-- THE SECOND FORM's CARD OF 'laws.FnExactParseCharge'. -/
def fnExactParseChargeUptoCard : Claim7 := { stood := { row := fnExactParseChargeUptoRow, standIns := [], harness := (true, "ed9ea96b6f3a7c733039de5f51372fbf0600ceecf4993434923d448a9022e57f"), looks := true }, kinds := [], alts := [], laidByText := true, laidKinds := [.data, .data, .data, .data, .sentinel, .sentinel, .pinned], laidTests := true, laidLooks := .later }
def FnExactParseChargeUptoCardSaid : Prop := Claim7.holds Tryd.pinned (.plain (OpenSpec.upto fnExactParseChargeSpec)) fnExactParseChargeUptoCard
end Rows
end Go.Proofs.YthogpinmmddicaaDoor
