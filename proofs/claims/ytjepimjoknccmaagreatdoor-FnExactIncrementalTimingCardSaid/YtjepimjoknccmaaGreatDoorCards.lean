/-
  DERIVED. GIVEN WITH THE SEED: THE CARDS: each row of YtjepimjoknccmaaGreatDoorRows.lean that lists a variable, with what it lists TIED to the program's text (the seventh form; the later family's looks); each row that meets fmt, with fmt's text TOLD by the authors' own Lean function (tested against real Go, not proved from fmt's source: count such statements apart). THE CARD IS WHAT COUNTS. Prove the row's statement (the work); the ties are given (YtjepimjoknccmaaGreatDoorTie.lean); close each card by the builder's one call (the guide's Derived/Test/ToyasCard.lean, 'card_holds'). Laid BY PROGRAM, IN A SANDBOX (cutbox-door.mjs). By AI agents, Wed Nov 11 2026. No macro, syntax, notation, axiom, sorry.
-/
import Derived.Test.YtjepimjoknccmaaGreatDoorRows
import GoSem.ClaimSeven
namespace Go.Proofs.YtjepimjoknccmaaGreatDoor
namespace Rows

/-- THE TIED CARD OF 'laws.FnExactIncrementalTiming'. -/
def fnExactIncrementalTimingCard : Claim7 := { stood := { row := fnExactIncrementalTimingRow, standIns := [], harness := (true, "7520392732858032026d183f6f3b498efaefcefb64a81b77b10caa5baf8ac1fe"), looks := false }, kinds := [], alts := [], laidByText := true, laidKinds := [.data, .pinned], laidTests := true, laidLooks := .later }
def FnExactIncrementalTimingCardSaid : Prop := Claim7.holds Tryz.pinned (.plain (OpenSpec.ofChange fnExactIncrementalTimingSpec)) fnExactIncrementalTimingCard

/-- THE SECOND FORM's CARD OF 'laws.FnExactIncrementalTiming'. -/
def fnExactIncrementalTimingUptoCard : Claim7 := { stood := { row := fnExactIncrementalTimingUptoRow, standIns := [], harness := (true, "7520392732858032026d183f6f3b498efaefcefb64a81b77b10caa5baf8ac1fe"), looks := false }, kinds := [], alts := [], laidByText := true, laidKinds := [.data, .pinned], laidTests := true, laidLooks := .later }
def FnExactIncrementalTimingUptoCardSaid : Prop := Claim7.holds Tryz.pinned (.plain (OpenSpec.upto fnExactIncrementalTimingSpec)) fnExactIncrementalTimingUptoCard
end Rows
end Go.Proofs.YtjepimjoknccmaaGreatDoor
