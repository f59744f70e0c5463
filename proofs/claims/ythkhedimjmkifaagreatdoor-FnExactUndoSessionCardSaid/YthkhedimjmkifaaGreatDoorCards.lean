/-
  DERIVED. GIVEN WITH THE SEED: THE CARDS: each row of YthkhedimjmkifaaGreatDoorRows.lean that lists a variable, with what it lists TIED to the program's text (the seventh form; the later family's looks); each row that meets fmt, with fmt's text TOLD by the authors' own Lean function (tested against real Go, not proved from fmt's source: count such statements apart). THE CARD IS WHAT COUNTS. Prove the row's statement (the work); the ties are given (YthkhedimjmkifaaGreatDoorTie.lean); close each card by the builder's one call (the guide's Derived/Test/ToyasCard.lean, 'card_holds'). Laid BY PROGRAM, IN A SANDBOX (cutbox-door.mjs). By AI agents, Wed Nov 11 2026. No macro, syntax, notation, axiom, sorry.
-/
import Derived.Test.YthkhedimjmkifaaGreatDoorRows
import GoSem.ClaimSeven
namespace Go.Proofs.YthkhedimjmkifaaGreatDoor
namespace Rows

/-- THE TIED CARD OF 'laws.FnExactIsSession'. -/
def fnExactIsSessionCard : Claim7 := { stood := { row := fnExactIsSessionRow, standIns := [], harness := (true, "95d2e41dd3826bad93cda2e06e4e443c5cd2f7bed68480ca9de6ee7f8c6d74d3"), looks := false }, kinds := [], alts := [], laidByText := true, laidKinds := [.data, .pinned], laidTests := true, laidLooks := .later }
def FnExactIsSessionCardSaid : Prop := Claim7.holds Tryz.pinned (.plain (OpenSpec.ofChange fnExactIsSessionSpec)) fnExactIsSessionCard

/-- THE TIED CARD OF 'laws.FnExactOpenSession'. -/
def fnExactOpenSessionCard : Claim7 := { stood := { row := fnExactOpenSessionRow, standIns := [], harness := (true, "95d2e41dd3826bad93cda2e06e4e443c5cd2f7bed68480ca9de6ee7f8c6d74d3"), looks := false }, kinds := [], alts := [], laidByText := true, laidKinds := [.data, .pinned], laidTests := true, laidLooks := .later }
def FnExactOpenSessionCardSaid : Prop := Claim7.holds Tryz.pinned (.plain (OpenSpec.ofChange fnExactOpenSessionSpec)) fnExactOpenSessionCard

/-- THE TIED CARD OF 'laws.FnExactUndoSession'. -/
def fnExactUndoSessionCard : Claim7 := { stood := { row := fnExactUndoSessionRow, standIns := [], harness := (true, "95d2e41dd3826bad93cda2e06e4e443c5cd2f7bed68480ca9de6ee7f8c6d74d3"), looks := false }, kinds := [], alts := [], laidByText := true, laidKinds := [.data, .pinned], laidTests := true, laidLooks := .later }
def FnExactUndoSessionCardSaid : Prop := Claim7.holds Tryz.pinned (.plain (OpenSpec.ofChange fnExactUndoSessionSpec)) fnExactUndoSessionCard

/-- THE TIED CARD OF 'laws.FnExactRedoSession'. -/
def fnExactRedoSessionCard : Claim7 := { stood := { row := fnExactRedoSessionRow, standIns := [], harness := (true, "95d2e41dd3826bad93cda2e06e4e443c5cd2f7bed68480ca9de6ee7f8c6d74d3"), looks := false }, kinds := [], alts := [], laidByText := true, laidKinds := [.data, .pinned], laidTests := true, laidLooks := .later }
def FnExactRedoSessionCardSaid : Prop := Claim7.holds Tryz.pinned (.plain (OpenSpec.ofChange fnExactRedoSessionSpec)) fnExactRedoSessionCard

/-- THE TIED CARD OF 'laws.FnExactEditSession'. -/
def fnExactEditSessionCard : Claim7 := { stood := { row := fnExactEditSessionRow, standIns := [], harness := (true, "95d2e41dd3826bad93cda2e06e4e443c5cd2f7bed68480ca9de6ee7f8c6d74d3"), looks := false }, kinds := [], alts := [], laidByText := true, laidKinds := [.data, .pinned], laidTests := true, laidLooks := .later }
def FnExactEditSessionCardSaid : Prop := Claim7.holds Tryz.pinned (.plain (OpenSpec.ofChange fnExactEditSessionSpec)) fnExactEditSessionCard

/-- THE SECOND FORM's CARD OF 'laws.FnExactIsSession'. -/
def fnExactIsSessionUptoCard : Claim7 := { stood := { row := fnExactIsSessionUptoRow, standIns := [], harness := (true, "95d2e41dd3826bad93cda2e06e4e443c5cd2f7bed68480ca9de6ee7f8c6d74d3"), looks := false }, kinds := [], alts := [], laidByText := true, laidKinds := [.data, .pinned], laidTests := true, laidLooks := .later }
def FnExactIsSessionUptoCardSaid : Prop := Claim7.holds Tryz.pinned (.plain (OpenSpec.upto fnExactIsSessionSpec)) fnExactIsSessionUptoCard

/-- THE SECOND FORM's CARD OF 'laws.FnExactOpenSession'. -/
def fnExactOpenSessionUptoCard : Claim7 := { stood := { row := fnExactOpenSessionUptoRow, standIns := [], harness := (true, "95d2e41dd3826bad93cda2e06e4e443c5cd2f7bed68480ca9de6ee7f8c6d74d3"), looks := false }, kinds := [], alts := [], laidByText := true, laidKinds := [.data, .pinned], laidTests := true, laidLooks := .later }
def FnExactOpenSessionUptoCardSaid : Prop := Claim7.holds Tryz.pinned (.plain (OpenSpec.upto fnExactOpenSessionSpec)) fnExactOpenSessionUptoCard

/-- THE SECOND FORM's CARD OF 'laws.FnExactUndoSession'. -/
def fnExactUndoSessionUptoCard : Claim7 := { stood := { row := fnExactUndoSessionUptoRow, standIns := [], harness := (true, "95d2e41dd3826bad93cda2e06e4e443c5cd2f7bed68480ca9de6ee7f8c6d74d3"), looks := false }, kinds := [], alts := [], laidByText := true, laidKinds := [.data, .pinned], laidTests := true, laidLooks := .later }
def FnExactUndoSessionUptoCardSaid : Prop := Claim7.holds Tryz.pinned (.plain (OpenSpec.upto fnExactUndoSessionSpec)) fnExactUndoSessionUptoCard

/-- THE SECOND FORM's CARD OF 'laws.FnExactRedoSession'. -/
def fnExactRedoSessionUptoCard : Claim7 := { stood := { row := fnExactRedoSessionUptoRow, standIns := [], harness := (true, "95d2e41dd3826bad93cda2e06e4e443c5cd2f7bed68480ca9de6ee7f8c6d74d3"), looks := false }, kinds := [], alts := [], laidByText := true, laidKinds := [.data, .pinned], laidTests := true, laidLooks := .later }
def FnExactRedoSessionUptoCardSaid : Prop := Claim7.holds Tryz.pinned (.plain (OpenSpec.upto fnExactRedoSessionSpec)) fnExactRedoSessionUptoCard

/-- THE SECOND FORM's CARD OF 'laws.FnExactEditSession'. -/
def fnExactEditSessionUptoCard : Claim7 := { stood := { row := fnExactEditSessionUptoRow, standIns := [], harness := (true, "95d2e41dd3826bad93cda2e06e4e443c5cd2f7bed68480ca9de6ee7f8c6d74d3"), looks := false }, kinds := [], alts := [], laidByText := true, laidKinds := [.data, .pinned], laidTests := true, laidLooks := .later }
def FnExactEditSessionUptoCardSaid : Prop := Claim7.holds Tryz.pinned (.plain (OpenSpec.upto fnExactEditSessionSpec)) fnExactEditSessionUptoCard
end Rows
end Go.Proofs.YthkhedimjmkifaaGreatDoor
