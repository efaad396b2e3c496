/-
  DERIVED. GIVEN WITH THE SEED: THE CARDS: each row of YtokblmiamhejjaaDoorRows.lean that lists a variable, with what it lists TIED to the program's text (the seventh form; the later family's looks); each row that meets fmt, with fmt's text TOLD by the authors' own Lean function (tested against real Go, not proved from fmt's source: count such statements apart). THE CARD IS WHAT COUNTS. Prove the row's statement (the work); the ties are given (YtokblmiamhejjaaDoorTie.lean); close each card by the builder's one call (the guide's Derived/Test/ToyasCard.lean, 'card_holds'). Laid BY PROGRAM, IN A SANDBOX (cutbox-door.mjs). By AI agents, Wed Nov 11 2026. No macro, syntax, notation, axiom, sorry.
-/
import Derived.Test.YtokblmiamhejjaaDoorRows
import GoSem.ClaimSeven
namespace Go.Proofs.YtokblmiamhejjaaDoor
namespace Rows

/-- THE TIED CARD OF 'laws.FnExactChargeText'. -/
def fnExactChargeTextCard : Claim7 := { stood := { row := fnExactChargeTextRow, standIns := [], harness := (true, "0b98204f96e1ca7b98f25880e51d684cc734e3ead17bebf61fadd91fc67488aa"), looks := false }, kinds := [], alts := [], laidByText := true, laidKinds := [.data, .data, .data], laidTests := true, laidLooks := .later }
def FnExactChargeTextCardSaid : Prop := Claim7.holds Tryd.pinned (.plain (OpenSpec.ofChange fnExactChargeTextSpec)) fnExactChargeTextCard

/-- THE SECOND FORM's CARD OF 'laws.FnExactChargeText'. -/
def fnExactChargeTextUptoCard : Claim7 := { stood := { row := fnExactChargeTextUptoRow, standIns := [], harness := (true, "0b98204f96e1ca7b98f25880e51d684cc734e3ead17bebf61fadd91fc67488aa"), looks := false }, kinds := [], alts := [], laidByText := true, laidKinds := [.data, .data, .data], laidTests := true, laidLooks := .later }
def FnExactChargeTextUptoCardSaid : Prop := Claim7.holds Tryd.pinned (.plain (OpenSpec.upto fnExactChargeTextSpec)) fnExactChargeTextUptoCard
end Rows
end Go.Proofs.YtokblmiamhejjaaDoor
