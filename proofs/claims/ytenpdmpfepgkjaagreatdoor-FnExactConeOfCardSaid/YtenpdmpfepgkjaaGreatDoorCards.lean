/-
  DERIVED. GIVEN WITH THE SEED: THE CARDS: each row of YtenpdmpfepgkjaaGreatDoorRows.lean that lists a variable, with what it lists TIED to the program's text (the seventh form; the later family's looks); each row that meets fmt, with fmt's text TOLD by the authors' own Lean function (tested against real Go, not proved from fmt's source: count such statements apart). THE CARD IS WHAT COUNTS. Prove the row's statement (the work); the ties are given (YtenpdmpfepgkjaaGreatDoorTie.lean); close each card by the builder's one call (the guide's Derived/Test/ToyasCard.lean, 'card_holds'). Laid BY PROGRAM, IN A SANDBOX (cutbox-door.mjs). By AI agents, Wed Nov 11 2026. No macro, syntax, notation, axiom, sorry.
-/
import Derived.Test.YtenpdmpfepgkjaaGreatDoorRows
import GoSem.ClaimSeven
namespace Go.Proofs.YtenpdmpfepgkjaaGreatDoor
namespace Rows

/-- THE TIED CARD OF 'laws.FnCone'. -/
def fnConeCard : Claim7 := { stood := { row := fnConeRow, standIns := [], harness := (true, "1cec2ae82a3f5fe83338265a0acf1fb877efccdf8adfbb94c53a0e122a77ef49"), looks := false }, kinds := [], alts := [], laidByText := true, laidKinds := [.data, .pinned], laidTests := true, laidLooks := .later }
def FnConeCardSaid : Prop := Claim7.holds Tryz.pinned (.plain (OpenSpec.ofChange fnConeSpec)) fnConeCard

/-- THE TIED CARD OF 'laws.FnExactConeOf'. -/
def fnExactConeOfCard : Claim7 := { stood := { row := fnExactConeOfRow, standIns := [], harness := (true, "1cec2ae82a3f5fe83338265a0acf1fb877efccdf8adfbb94c53a0e122a77ef49"), looks := false }, kinds := [], alts := [], laidByText := true, laidKinds := [.data, .pinned], laidTests := true, laidLooks := .later }
def FnExactConeOfCardSaid : Prop := Claim7.holds Tryz.pinned (.plain (OpenSpec.ofChange fnExactConeOfSpec)) fnExactConeOfCard

/-- THE SECOND FORM's CARD OF 'laws.FnCone'. -/
def fnConeUptoCard : Claim7 := { stood := { row := fnConeUptoRow, standIns := [], harness := (true, "1cec2ae82a3f5fe83338265a0acf1fb877efccdf8adfbb94c53a0e122a77ef49"), looks := false }, kinds := [], alts := [], laidByText := true, laidKinds := [.data, .pinned], laidTests := true, laidLooks := .later }
def FnConeUptoCardSaid : Prop := Claim7.holds Tryz.pinned (.plain (OpenSpec.upto fnConeSpec)) fnConeUptoCard

/-- THE SECOND FORM's CARD OF 'laws.FnExactConeOf'. -/
def fnExactConeOfUptoCard : Claim7 := { stood := { row := fnExactConeOfUptoRow, standIns := [], harness := (true, "1cec2ae82a3f5fe83338265a0acf1fb877efccdf8adfbb94c53a0e122a77ef49"), looks := false }, kinds := [], alts := [], laidByText := true, laidKinds := [.data, .pinned], laidTests := true, laidLooks := .later }
def FnExactConeOfUptoCardSaid : Prop := Claim7.holds Tryz.pinned (.plain (OpenSpec.upto fnExactConeOfSpec)) fnExactConeOfUptoCard
end Rows
end Go.Proofs.YtenpdmpfepgkjaaGreatDoor
