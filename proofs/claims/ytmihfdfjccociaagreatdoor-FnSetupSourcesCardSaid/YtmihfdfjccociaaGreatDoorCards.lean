/-
  DERIVED. GIVEN WITH THE SEED: THE CARDS: each row of YtmihfdfjccociaaGreatDoorRows.lean that lists a variable, with what it lists TIED to the program's text (the seventh form; the later family's looks); each row that meets fmt, with fmt's text TOLD by the authors' own Lean function (tested against real Go, not proved from fmt's source: count such statements apart). THE CARD IS WHAT COUNTS. Prove the row's statement (the work); the ties are given (YtmihfdfjccociaaGreatDoorTie.lean); close each card by the builder's one call (the guide's Derived/Test/ToyasCard.lean, 'card_holds'). Laid BY PROGRAM, IN A SANDBOX (cutbox-door.mjs). By AI agents, Wed Nov 11 2026. No macro, syntax, notation, axiom, sorry.
-/
import Derived.Test.YtmihfdfjccociaaGreatDoorRows
import GoSem.ClaimSeven
namespace Go.Proofs.YtmihfdfjccociaaGreatDoor
namespace Rows

/-- THE TIED CARD OF 'laws.FnSetupSources'. -/
def fnSetupSourcesCard : Claim7 := { stood := { row := fnSetupSourcesRow, standIns := [], harness := (true, "4f9ed160dd28d1b8f1c75b724e413fcd75567a6ae6bd86ae15b3f99f0b3ddadc"), looks := false }, kinds := [], alts := [], laidByText := true, laidKinds := [.data, .pinned], laidTests := true, laidLooks := .later }
def FnSetupSourcesCardSaid : Prop := Claim7.holds Tryz.pinned (.plain (OpenSpec.ofChange fnSetupSourcesSpec)) fnSetupSourcesCard

/-- THE TIED CARD OF 'laws.FnSetupTiming'. -/
def fnSetupTimingCard : Claim7 := { stood := { row := fnSetupTimingRow, standIns := [], harness := (true, "4f9ed160dd28d1b8f1c75b724e413fcd75567a6ae6bd86ae15b3f99f0b3ddadc"), looks := false }, kinds := [], alts := [], laidByText := true, laidKinds := [.data, .pinned], laidTests := true, laidLooks := .later }
def FnSetupTimingCardSaid : Prop := Claim7.holds Tryz.pinned (.plain (OpenSpec.ofChange fnSetupTimingSpec)) fnSetupTimingCard

/-- THE SECOND FORM's CARD OF 'laws.FnSetupSources'. -/
def fnSetupSourcesUptoCard : Claim7 := { stood := { row := fnSetupSourcesUptoRow, standIns := [], harness := (true, "4f9ed160dd28d1b8f1c75b724e413fcd75567a6ae6bd86ae15b3f99f0b3ddadc"), looks := false }, kinds := [], alts := [], laidByText := true, laidKinds := [.data, .pinned], laidTests := true, laidLooks := .later }
def FnSetupSourcesUptoCardSaid : Prop := Claim7.holds Tryz.pinned (.plain (OpenSpec.upto fnSetupSourcesSpec)) fnSetupSourcesUptoCard

/-- THE SECOND FORM's CARD OF 'laws.FnSetupTiming'. -/
def fnSetupTimingUptoCard : Claim7 := { stood := { row := fnSetupTimingUptoRow, standIns := [], harness := (true, "4f9ed160dd28d1b8f1c75b724e413fcd75567a6ae6bd86ae15b3f99f0b3ddadc"), looks := false }, kinds := [], alts := [], laidByText := true, laidKinds := [.data, .pinned], laidTests := true, laidLooks := .later }
def FnSetupTimingUptoCardSaid : Prop := Claim7.holds Tryz.pinned (.plain (OpenSpec.upto fnSetupTimingSpec)) fnSetupTimingUptoCard
end Rows
end Go.Proofs.YtmihfdfjccociaaGreatDoor
