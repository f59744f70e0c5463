/-
  DERIVED. GIVEN WITH THE SEED: THE CARDS: each row of YtaccffcigblceaaGreatDoorRows.lean that lists a variable, with what it lists TIED to the program's text (the seventh form; the later family's looks); each row that meets fmt, with fmt's text TOLD by the authors' own Lean function (tested against real Go, not proved from fmt's source: count such statements apart). THE CARD IS WHAT COUNTS. Prove the row's statement (the work); the ties are given (YtaccffcigblceaaGreatDoorTie.lean); close each card by the builder's one call (the guide's Derived/Test/ToyasCard.lean, 'card_holds'). Laid BY PROGRAM, IN A SANDBOX (cutbox-door.mjs). By AI agents, Wed Nov 11 2026. No macro, syntax, notation, axiom, sorry.
-/
import Derived.Test.YtaccffcigblceaaGreatDoorRows
import GoSem.ClaimSeven
namespace Go.Proofs.YtaccffcigblceaaGreatDoor
namespace Rows

/-- THE TIED CARD OF 'laws.FnExactPlacesAfter'. -/
def fnExactPlacesAfterCard : Claim7 := { stood := { row := fnExactPlacesAfterRow, standIns := [], harness := (true, "555e69dceaf8683b9c3ad8cc1e494b593b330a2f7345cf8c6d52ef6d2091911a"), looks := false }, kinds := [], alts := [], laidByText := true, laidKinds := [.data, .pinned], laidTests := true, laidLooks := .later }
def FnExactPlacesAfterCardSaid : Prop := Claim7.holds Tryz.pinned (.plain (OpenSpec.ofChange fnExactPlacesAfterSpec)) fnExactPlacesAfterCard

/-- THE TIED CARD OF 'laws.FnExactSourcesAfter'. -/
def fnExactSourcesAfterCard : Claim7 := { stood := { row := fnExactSourcesAfterRow, standIns := [], harness := (true, "555e69dceaf8683b9c3ad8cc1e494b593b330a2f7345cf8c6d52ef6d2091911a"), looks := false }, kinds := [], alts := [], laidByText := true, laidKinds := [.data, .pinned], laidTests := true, laidLooks := .later }
def FnExactSourcesAfterCardSaid : Prop := Claim7.holds Tryz.pinned (.plain (OpenSpec.ofChange fnExactSourcesAfterSpec)) fnExactSourcesAfterCard

/-- THE TIED CARD OF 'laws.FnExactSetupTargets'. -/
def fnExactSetupTargetsCard : Claim7 := { stood := { row := fnExactSetupTargetsRow, standIns := [], harness := (true, "555e69dceaf8683b9c3ad8cc1e494b593b330a2f7345cf8c6d52ef6d2091911a"), looks := false }, kinds := [], alts := [], laidByText := true, laidKinds := [.data, .pinned], laidTests := true, laidLooks := .later }
def FnExactSetupTargetsCardSaid : Prop := Claim7.holds Tryz.pinned (.plain (OpenSpec.ofChange fnExactSetupTargetsSpec)) fnExactSetupTargetsCard

/-- THE SECOND FORM's CARD OF 'laws.FnExactPlacesAfter'. -/
def fnExactPlacesAfterUptoCard : Claim7 := { stood := { row := fnExactPlacesAfterUptoRow, standIns := [], harness := (true, "555e69dceaf8683b9c3ad8cc1e494b593b330a2f7345cf8c6d52ef6d2091911a"), looks := false }, kinds := [], alts := [], laidByText := true, laidKinds := [.data, .pinned], laidTests := true, laidLooks := .later }
def FnExactPlacesAfterUptoCardSaid : Prop := Claim7.holds Tryz.pinned (.plain (OpenSpec.upto fnExactPlacesAfterSpec)) fnExactPlacesAfterUptoCard

/-- THE SECOND FORM's CARD OF 'laws.FnExactSourcesAfter'. -/
def fnExactSourcesAfterUptoCard : Claim7 := { stood := { row := fnExactSourcesAfterUptoRow, standIns := [], harness := (true, "555e69dceaf8683b9c3ad8cc1e494b593b330a2f7345cf8c6d52ef6d2091911a"), looks := false }, kinds := [], alts := [], laidByText := true, laidKinds := [.data, .pinned], laidTests := true, laidLooks := .later }
def FnExactSourcesAfterUptoCardSaid : Prop := Claim7.holds Tryz.pinned (.plain (OpenSpec.upto fnExactSourcesAfterSpec)) fnExactSourcesAfterUptoCard

/-- THE SECOND FORM's CARD OF 'laws.FnExactSetupTargets'. -/
def fnExactSetupTargetsUptoCard : Claim7 := { stood := { row := fnExactSetupTargetsUptoRow, standIns := [], harness := (true, "555e69dceaf8683b9c3ad8cc1e494b593b330a2f7345cf8c6d52ef6d2091911a"), looks := false }, kinds := [], alts := [], laidByText := true, laidKinds := [.data, .pinned], laidTests := true, laidLooks := .later }
def FnExactSetupTargetsUptoCardSaid : Prop := Claim7.holds Tryz.pinned (.plain (OpenSpec.upto fnExactSetupTargetsSpec)) fnExactSetupTargetsUptoCard
end Rows
end Go.Proofs.YtaccffcigblceaaGreatDoor
