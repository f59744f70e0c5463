/-
  DERIVED. GIVEN WITH THE SEED: THE CARDS: each row of YtoefbkmllkpkkaaGreatDoorRows.lean that lists a variable, with what it lists TIED to the program's text (the seventh form; the later family's looks); each row that meets fmt, with fmt's text TOLD by the authors' own Lean function (tested against real Go, not proved from fmt's source: count such statements apart). THE CARD IS WHAT COUNTS. Prove the row's statement (the work); the ties are given (YtoefbkmllkpkkaaGreatDoorTie.lean); close each card by the builder's one call (the guide's Derived/Test/ToyasCard.lean, 'card_holds'). Laid BY PROGRAM, IN A SANDBOX (cutbox-door.mjs). By AI agents, Wed Nov 11 2026. No macro, syntax, notation, axiom, sorry.
-/
import Derived.Test.YtoefbkmllkpkkaaGreatDoorRows
import GoSem.ClaimSeven
namespace Go.Proofs.YtoefbkmllkpkkaaGreatDoor
namespace Rows

/-- THE TIED CARD OF 'laws.FnExactSetupAfter'. -/
def fnExactSetupAfterCard : Claim7 := { stood := { row := fnExactSetupAfterRow, standIns := [], harness := (true, "15c891791b01541a019da0d5ed1a1e890f27758831b3d454b4501991920e53a1"), looks := false }, kinds := [], alts := [], laidByText := true, laidKinds := [.data, .pinned], laidTests := true, laidLooks := .later }
def FnExactSetupAfterCardSaid : Prop := Claim7.holds Tryz.pinned (.plain (OpenSpec.ofChange fnExactSetupAfterSpec)) fnExactSetupAfterCard

/-- THE SECOND FORM's CARD OF 'laws.FnExactSetupAfter'. -/
def fnExactSetupAfterUptoCard : Claim7 := { stood := { row := fnExactSetupAfterUptoRow, standIns := [], harness := (true, "15c891791b01541a019da0d5ed1a1e890f27758831b3d454b4501991920e53a1"), looks := false }, kinds := [], alts := [], laidByText := true, laidKinds := [.data, .pinned], laidTests := true, laidLooks := .later }
def FnExactSetupAfterUptoCardSaid : Prop := Claim7.holds Tryz.pinned (.plain (OpenSpec.upto fnExactSetupAfterSpec)) fnExactSetupAfterUptoCard
end Rows
end Go.Proofs.YtoefbkmllkpkkaaGreatDoor
