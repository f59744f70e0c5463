/-
  DERIVED. GIVEN WITH THE SEED: THE CARDS: each row of YtpkjbcbepmpddaaGreatDoorRows.lean that lists a variable, with what it lists TIED to the program's text (the seventh form; the later family's looks); each row that meets fmt, with fmt's text TOLD by the authors' own Lean function (tested against real Go, not proved from fmt's source: count such statements apart). THE CARD IS WHAT COUNTS. Prove the row's statement (the work); the ties are given (YtpkjbcbepmpddaaGreatDoorTie.lean); close each card by the builder's one call (the guide's Derived/Test/ToyasCard.lean, 'card_holds'). Laid BY PROGRAM, IN A SANDBOX (cutbox-door.mjs). By AI agents, Wed Nov 11 2026. No macro, syntax, notation, axiom, sorry.
-/
import Derived.Test.YtpkjbcbepmpddaaGreatDoorRows
import GoSem.ClaimSeven
namespace Go.Proofs.YtpkjbcbepmpddaaGreatDoor
namespace Rows

/-- THE TIED CARD OF 'laws.FnExactSetupTiming'. -/
def fnExactSetupTimingCard : Claim7 := { stood := { row := fnExactSetupTimingRow, standIns := [], harness := (true, "c32ee973ed589a200b58648b9c6d7a7fbdda5d2bec71db95aad8edf4296567df"), looks := false }, kinds := [], alts := [], laidByText := true, laidKinds := [.data, .pinned], laidTests := true, laidLooks := .later }
def FnExactSetupTimingCardSaid : Prop := Claim7.holds Tryz.pinned (.plain (OpenSpec.ofChange fnExactSetupTimingSpec)) fnExactSetupTimingCard

/-- THE SECOND FORM's CARD OF 'laws.FnExactSetupTiming'. -/
def fnExactSetupTimingUptoCard : Claim7 := { stood := { row := fnExactSetupTimingUptoRow, standIns := [], harness := (true, "c32ee973ed589a200b58648b9c6d7a7fbdda5d2bec71db95aad8edf4296567df"), looks := false }, kinds := [], alts := [], laidByText := true, laidKinds := [.data, .pinned], laidTests := true, laidLooks := .later }
def FnExactSetupTimingUptoCardSaid : Prop := Claim7.holds Tryz.pinned (.plain (OpenSpec.upto fnExactSetupTimingSpec)) fnExactSetupTimingUptoCard
end Rows
end Go.Proofs.YtpkjbcbepmpddaaGreatDoor
