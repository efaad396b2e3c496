/-
  DERIVED. GIVEN WITH THE SEED: THE CARDS: each row of YticnpofbcblgaaaDoorRows.lean that lists a variable, with what it lists TIED to the program's text (the seventh form; the later family's looks); each row that meets fmt, with fmt's text TOLD by the authors' own Lean function (tested against real Go, not proved from fmt's source: count such statements apart). THE CARD IS WHAT COUNTS. Prove the row's statement (the work); the ties are given (YticnpofbcblgaaaDoorTie.lean); close each card by the builder's one call (the guide's Derived/Test/ToyasCard.lean, 'card_holds'). Laid BY PROGRAM, IN A SANDBOX (cutbox-door.mjs). By AI agents, Wed Nov 11 2026. No macro, syntax, notation, axiom, sorry.
-/
import Derived.Test.YticnpofbcblgaaaDoorRows
import GoSem.ClaimSeven
namespace Go.Proofs.YticnpofbcblgaaaDoor
namespace Rows

/-- THE TIED CARD OF 'laws.FnExactTenthText'. -/
def fnExactTenthTextCard : Claim7 := { stood := { row := fnExactTenthTextRow, standIns := [], harness := (true, "c2ad7f4326cd37120d33499ff7b13b73fd5581750170f0b91e94e57697b41575"), looks := false }, kinds := [], alts := [], laidByText := true, laidKinds := [.data, .data, .data], laidTests := true, laidLooks := .later }
def FnExactTenthTextCardSaid : Prop := Claim7.holds Tryd.pinned (.plain (OpenSpec.ofChange fnExactTenthTextSpec)) fnExactTenthTextCard

/-- THE TIED CARD OF 'laws.FnExactParseTenth'. -/
def fnExactParseTenthCard : Claim7 := { stood := { row := fnExactParseTenthRow, standIns := [], harness := (true, "c2ad7f4326cd37120d33499ff7b13b73fd5581750170f0b91e94e57697b41575"), looks := false }, kinds := [], alts := [], laidByText := true, laidKinds := [.data, .data, .data], laidTests := true, laidLooks := .later }
def FnExactParseTenthCardSaid : Prop := Claim7.holds Tryd.pinned (.plain (OpenSpec.ofChange fnExactParseTenthSpec)) fnExactParseTenthCard

/-- THE SECOND FORM's CARD OF 'laws.FnExactTenthText'. -/
def fnExactTenthTextUptoCard : Claim7 := { stood := { row := fnExactTenthTextUptoRow, standIns := [], harness := (true, "c2ad7f4326cd37120d33499ff7b13b73fd5581750170f0b91e94e57697b41575"), looks := false }, kinds := [], alts := [], laidByText := true, laidKinds := [.data, .data, .data], laidTests := true, laidLooks := .later }
def FnExactTenthTextUptoCardSaid : Prop := Claim7.holds Tryd.pinned (.plain (OpenSpec.upto fnExactTenthTextSpec)) fnExactTenthTextUptoCard

/-- THE SECOND FORM's CARD OF 'laws.FnExactParseTenth'. -/
def fnExactParseTenthUptoCard : Claim7 := { stood := { row := fnExactParseTenthUptoRow, standIns := [], harness := (true, "c2ad7f4326cd37120d33499ff7b13b73fd5581750170f0b91e94e57697b41575"), looks := false }, kinds := [], alts := [], laidByText := true, laidKinds := [.data, .data, .data], laidTests := true, laidLooks := .later }
def FnExactParseTenthUptoCardSaid : Prop := Claim7.holds Tryd.pinned (.plain (OpenSpec.upto fnExactParseTenthSpec)) fnExactParseTenthUptoCard
end Rows
end Go.Proofs.YticnpofbcblgaaaDoor
