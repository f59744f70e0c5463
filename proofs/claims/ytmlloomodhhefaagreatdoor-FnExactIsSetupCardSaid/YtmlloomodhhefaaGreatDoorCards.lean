/-
  DERIVED. GIVEN WITH THE SEED: THE CARDS: each row of YtmlloomodhhefaaGreatDoorRows.lean that lists a variable, with what it lists TIED to the program's text (the seventh form; the later family's looks); each row that meets fmt, with fmt's text TOLD by the authors' own Lean function (tested against real Go, not proved from fmt's source: count such statements apart). THE CARD IS WHAT COUNTS. Prove the row's statement (the work); the ties are given (YtmlloomodhhefaaGreatDoorTie.lean); close each card by the builder's one call (the guide's Derived/Test/ToyasCard.lean, 'card_holds'). Laid BY PROGRAM, IN A SANDBOX (cutbox-door.mjs). By AI agents, Wed Nov 11 2026. No macro, syntax, notation, axiom, sorry.
-/
import Derived.Test.YtmlloomodhhefaaGreatDoorRows
import GoSem.ClaimSeven
namespace Go.Proofs.YtmlloomodhhefaaGreatDoor
namespace Rows

/-- THE TIED CARD OF 'laws.FnExactIsSetup'. -/
def fnExactIsSetupCard : Claim7 := { stood := { row := fnExactIsSetupRow, standIns := [], harness := (true, "30cacb9a18fd332eead231f56f99aa7f2ba965955a6daead9f7cd0bafcf2b241"), looks := false }, kinds := [], alts := [], laidByText := true, laidKinds := [.data, .pinned], laidTests := true, laidLooks := .later }
def FnExactIsSetupCardSaid : Prop := Claim7.holds Tryz.pinned (.plain (OpenSpec.ofChange fnExactIsSetupSpec)) fnExactIsSetupCard

/-- THE TIED CARD OF 'laws.FnExactSetupText'. -/
def fnExactSetupTextCard : Claim7 := { stood := { row := fnExactSetupTextRow, standIns := [], harness := (true, "30cacb9a18fd332eead231f56f99aa7f2ba965955a6daead9f7cd0bafcf2b241"), looks := false }, kinds := [], alts := [], laidByText := true, laidKinds := [.data, .data, .data, .data, .widerDeep, .pinned], laidTests := true, laidLooks := .later }
def FnExactSetupTextCardSaid : Prop := Claim7.holds Tryz.pinned (.plain (OpenSpec.ofChange fnExactSetupTextSpec)) fnExactSetupTextCard

/-- THE SECOND FORM's CARD OF 'laws.FnExactIsSetup'. -/
def fnExactIsSetupUptoCard : Claim7 := { stood := { row := fnExactIsSetupUptoRow, standIns := [], harness := (true, "30cacb9a18fd332eead231f56f99aa7f2ba965955a6daead9f7cd0bafcf2b241"), looks := false }, kinds := [], alts := [], laidByText := true, laidKinds := [.data, .pinned], laidTests := true, laidLooks := .later }
def FnExactIsSetupUptoCardSaid : Prop := Claim7.holds Tryz.pinned (.plain (OpenSpec.upto fnExactIsSetupSpec)) fnExactIsSetupUptoCard

/-- THE SECOND FORM's CARD OF 'laws.FnExactSetupText'. -/
def fnExactSetupTextUptoCard : Claim7 := { stood := { row := fnExactSetupTextUptoRow, standIns := [], harness := (true, "30cacb9a18fd332eead231f56f99aa7f2ba965955a6daead9f7cd0bafcf2b241"), looks := false }, kinds := [], alts := [], laidByText := true, laidKinds := [.data, .data, .data, .data, .widerDeep, .pinned], laidTests := true, laidLooks := .later }
def FnExactSetupTextUptoCardSaid : Prop := Claim7.holds Tryz.pinned (.plain (OpenSpec.upto fnExactSetupTextSpec)) fnExactSetupTextUptoCard
end Rows
end Go.Proofs.YtmlloomodhhefaaGreatDoor
