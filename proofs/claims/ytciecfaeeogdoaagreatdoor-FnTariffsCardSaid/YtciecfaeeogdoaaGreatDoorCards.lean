/-
  DERIVED. GIVEN WITH THE SEED: THE CARDS: each row of YtciecfaeeogdoaaGreatDoorRows.lean that lists a variable, with what it lists TIED to the program's text (the seventh form; the later family's looks); each row that meets fmt, with fmt's text TOLD by the authors' own Lean function (tested against real Go, not proved from fmt's source: count such statements apart). THE CARD IS WHAT COUNTS. Prove the row's statement (the work); the ties are given (YtciecfaeeogdoaaGreatDoorTie.lean); close each card by the builder's one call (the guide's Derived/Test/ToyasCard.lean, 'card_holds'). Laid BY PROGRAM, IN A SANDBOX (cutbox-door.mjs). By AI agents, Wed Nov 11 2026. No macro, syntax, notation, axiom, sorry.
-/
import Derived.Test.YtciecfaeeogdoaaGreatDoorRows
import GoSem.ClaimSeven
namespace Go.Proofs.YtciecfaeeogdoaaGreatDoor
namespace Rows

/-- THE TIED CARD OF 'laws.FnTariffs'. -/
def fnTariffsCard : Claim7 := { stood := { row := fnTariffsRow, standIns := [], harness := (true, "2a7149c25fbcbdc47691df1b174470eab6d9e8a3a68bdefccba6d77ebabca447"), looks := true }, kinds := [], alts := [], laidByText := true, laidKinds := [.data, .data, .data, .data, .sentinel, .sentinel, .pinned], laidTests := true, laidLooks := .later }
def FnTariffsCardSaid : Prop := Claim7.holds Tryz.pinned (.plain (OpenSpec.ofChange fnTariffsSpec)) fnTariffsCard

/-- THE SECOND FORM's CARD OF 'laws.FnTariffs'. -/
def fnTariffsUptoCard : Claim7 := { stood := { row := fnTariffsUptoRow, standIns := [], harness := (true, "2a7149c25fbcbdc47691df1b174470eab6d9e8a3a68bdefccba6d77ebabca447"), looks := true }, kinds := [], alts := [], laidByText := true, laidKinds := [.data, .data, .data, .data, .sentinel, .sentinel, .pinned], laidTests := true, laidLooks := .later }
def FnTariffsUptoCardSaid : Prop := Claim7.holds Tryz.pinned (.plain (OpenSpec.upto fnTariffsSpec)) fnTariffsUptoCard
end Rows
end Go.Proofs.YtciecfaeeogdoaaGreatDoor
