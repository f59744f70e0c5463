/-
  DERIVED. GIVEN WITH THE SEED: THE CARDS: each row of YtoijdogpgpbddaaGreatDoorRows.lean that lists a variable, with what it lists TIED to the program's text (the seventh form; the later family's looks); each row that meets fmt, with fmt's text TOLD by the authors' own Lean function (tested against real Go, not proved from fmt's source: count such statements apart). THE CARD IS WHAT COUNTS. Prove the row's statement (the work); the ties are given (YtoijdogpgpbddaaGreatDoorTie.lean); close each card by the builder's one call (the guide's Derived/Test/ToyasCard.lean, 'card_holds'). Laid BY PROGRAM, IN A SANDBOX (cutbox-door.mjs). By AI agents, Wed Nov 11 2026. No macro, syntax, notation, axiom, sorry.
-/
import Derived.Test.YtoijdogpgpbddaaGreatDoorRows
import GoSem.ClaimSeven
namespace Go.Proofs.YtoijdogpgpbddaaGreatDoor
namespace Rows

/-- THE TIED CARD OF 'laws.FnTop'. -/
def fnTopCard : Claim7 := { stood := { row := fnTopRow, standIns := [], harness := (true, "73ca3f92a86900dea1c3de2fb84313b4d0b9349be1f529b5bcda9992c8142c10"), looks := false }, kinds := [], alts := [], laidByText := true, laidKinds := [.data, .pinned], laidTests := true, laidLooks := .later }
def FnTopCardSaid : Prop := Claim7.holds Tryz.pinned (.plain (OpenSpec.ofChange fnTopSpec)) fnTopCard

/-- THE TIED CARD OF 'laws.FnTopOfAll'. -/
def fnTopOfAllCard : Claim7 := { stood := { row := fnTopOfAllRow, standIns := [], harness := (true, "73ca3f92a86900dea1c3de2fb84313b4d0b9349be1f529b5bcda9992c8142c10"), looks := false }, kinds := [], alts := [], laidByText := true, laidKinds := [.data, .pinned], laidTests := true, laidLooks := .later }
def FnTopOfAllCardSaid : Prop := Claim7.holds Tryz.pinned (.plain (OpenSpec.ofChange fnTopOfAllSpec)) fnTopOfAllCard

/-- THE SECOND FORM's CARD OF 'laws.FnTop'. -/
def fnTopUptoCard : Claim7 := { stood := { row := fnTopUptoRow, standIns := [], harness := (true, "73ca3f92a86900dea1c3de2fb84313b4d0b9349be1f529b5bcda9992c8142c10"), looks := false }, kinds := [], alts := [], laidByText := true, laidKinds := [.data, .pinned], laidTests := true, laidLooks := .later }
def FnTopUptoCardSaid : Prop := Claim7.holds Tryz.pinned (.plain (OpenSpec.upto fnTopSpec)) fnTopUptoCard

/-- THE SECOND FORM's CARD OF 'laws.FnTopOfAll'. -/
def fnTopOfAllUptoCard : Claim7 := { stood := { row := fnTopOfAllUptoRow, standIns := [], harness := (true, "73ca3f92a86900dea1c3de2fb84313b4d0b9349be1f529b5bcda9992c8142c10"), looks := false }, kinds := [], alts := [], laidByText := true, laidKinds := [.data, .pinned], laidTests := true, laidLooks := .later }
def FnTopOfAllUptoCardSaid : Prop := Claim7.holds Tryz.pinned (.plain (OpenSpec.upto fnTopOfAllSpec)) fnTopOfAllUptoCard
end Rows
end Go.Proofs.YtoijdogpgpbddaaGreatDoor
