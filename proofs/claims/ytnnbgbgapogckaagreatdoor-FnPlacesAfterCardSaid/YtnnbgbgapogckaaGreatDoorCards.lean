/-
  DERIVED. GIVEN WITH THE SEED: THE CARDS: each row of YtnnbgbgapogckaaGreatDoorRows.lean that lists a variable, with what it lists TIED to the program's text (the seventh form; the later family's looks); each row that meets fmt, with fmt's text TOLD by the authors' own Lean function (tested against real Go, not proved from fmt's source: count such statements apart). THE CARD IS WHAT COUNTS. Prove the row's statement (the work); the ties are given (YtnnbgbgapogckaaGreatDoorTie.lean); close each card by the builder's one call (the guide's Derived/Test/ToyasCard.lean, 'card_holds'). Laid BY PROGRAM, IN A SANDBOX (cutbox-door.mjs). By AI agents, Wed Nov 11 2026. No macro, syntax, notation, axiom, sorry.
-/
import Derived.Test.YtnnbgbgapogckaaGreatDoorRows
import GoSem.ClaimSeven
namespace Go.Proofs.YtnnbgbgapogckaaGreatDoor
namespace Rows

/-- THE TIED CARD OF 'laws.FnRelation'. -/
def fnRelationCard : Claim7 := { stood := { row := fnRelationRow, standIns := [], harness := (true, "e4317ee8058a1a75cede7cc7767fd80a998b054a0ca3830f8f7cc4bdf0fa9d66"), looks := false }, kinds := [], alts := [], laidByText := true, laidKinds := [.data, .pinned], laidTests := true, laidLooks := .later }
def FnRelationCardSaid : Prop := Claim7.holds Tryz.pinned (.plain (OpenSpec.ofChange fnRelationSpec)) fnRelationCard

/-- THE TIED CARD OF 'laws.FnWireGrows'. -/
def fnWireGrowsCard : Claim7 := { stood := { row := fnWireGrowsRow, standIns := [], harness := (true, "e4317ee8058a1a75cede7cc7767fd80a998b054a0ca3830f8f7cc4bdf0fa9d66"), looks := false }, kinds := [], alts := [], laidByText := true, laidKinds := [.data, .pinned], laidTests := true, laidLooks := .later }
def FnWireGrowsCardSaid : Prop := Claim7.holds Tryz.pinned (.plain (OpenSpec.ofChange fnWireGrowsSpec)) fnWireGrowsCard

/-- THE TIED CARD OF 'laws.FnCone'. -/
def fnConeCard : Claim7 := { stood := { row := fnConeRow, standIns := [], harness := (true, "e4317ee8058a1a75cede7cc7767fd80a998b054a0ca3830f8f7cc4bdf0fa9d66"), looks := false }, kinds := [], alts := [], laidByText := true, laidKinds := [.data, .pinned], laidTests := true, laidLooks := .later }
def FnConeCardSaid : Prop := Claim7.holds Tryz.pinned (.plain (OpenSpec.ofChange fnConeSpec)) fnConeCard

/-- THE TIED CARD OF 'laws.FnEditInverse'. -/
def fnEditInverseCard : Claim7 := { stood := { row := fnEditInverseRow, standIns := [], harness := (true, "e4317ee8058a1a75cede7cc7767fd80a998b054a0ca3830f8f7cc4bdf0fa9d66"), looks := false }, kinds := [], alts := [], laidByText := true, laidKinds := [.data, .pinned], laidTests := true, laidLooks := .later }
def FnEditInverseCardSaid : Prop := Claim7.holds Tryz.pinned (.plain (OpenSpec.ofChange fnEditInverseSpec)) fnEditInverseCard

/-- THE TIED CARD OF 'laws.FnEditList'. -/
def fnEditListCard : Claim7 := { stood := { row := fnEditListRow, standIns := [], harness := (true, "e4317ee8058a1a75cede7cc7767fd80a998b054a0ca3830f8f7cc4bdf0fa9d66"), looks := false }, kinds := [], alts := [], laidByText := true, laidKinds := [.data, .pinned], laidTests := true, laidLooks := .later }
def FnEditListCardSaid : Prop := Claim7.holds Tryz.pinned (.plain (OpenSpec.ofChange fnEditListSpec)) fnEditListCard

/-- THE TIED CARD OF 'laws.FnPlacesAfter'. -/
def fnPlacesAfterCard : Claim7 := { stood := { row := fnPlacesAfterRow, standIns := [], harness := (true, "e4317ee8058a1a75cede7cc7767fd80a998b054a0ca3830f8f7cc4bdf0fa9d66"), looks := false }, kinds := [], alts := [], laidByText := true, laidKinds := [.data, .pinned], laidTests := true, laidLooks := .later }
def FnPlacesAfterCardSaid : Prop := Claim7.holds Tryz.pinned (.plain (OpenSpec.ofChange fnPlacesAfterSpec)) fnPlacesAfterCard

/-- THE SECOND FORM's CARD OF 'laws.FnRelation'. -/
def fnRelationUptoCard : Claim7 := { stood := { row := fnRelationUptoRow, standIns := [], harness := (true, "e4317ee8058a1a75cede7cc7767fd80a998b054a0ca3830f8f7cc4bdf0fa9d66"), looks := false }, kinds := [], alts := [], laidByText := true, laidKinds := [.data, .pinned], laidTests := true, laidLooks := .later }
def FnRelationUptoCardSaid : Prop := Claim7.holds Tryz.pinned (.plain (OpenSpec.upto fnRelationSpec)) fnRelationUptoCard

/-- THE SECOND FORM's CARD OF 'laws.FnWireGrows'. -/
def fnWireGrowsUptoCard : Claim7 := { stood := { row := fnWireGrowsUptoRow, standIns := [], harness := (true, "e4317ee8058a1a75cede7cc7767fd80a998b054a0ca3830f8f7cc4bdf0fa9d66"), looks := false }, kinds := [], alts := [], laidByText := true, laidKinds := [.data, .pinned], laidTests := true, laidLooks := .later }
def FnWireGrowsUptoCardSaid : Prop := Claim7.holds Tryz.pinned (.plain (OpenSpec.upto fnWireGrowsSpec)) fnWireGrowsUptoCard

/-- THE SECOND FORM's CARD OF 'laws.FnCone'. -/
def fnConeUptoCard : Claim7 := { stood := { row := fnConeUptoRow, standIns := [], harness := (true, "e4317ee8058a1a75cede7cc7767fd80a998b054a0ca3830f8f7cc4bdf0fa9d66"), looks := false }, kinds := [], alts := [], laidByText := true, laidKinds := [.data, .pinned], laidTests := true, laidLooks := .later }
def FnConeUptoCardSaid : Prop := Claim7.holds Tryz.pinned (.plain (OpenSpec.upto fnConeSpec)) fnConeUptoCard

/-- THE SECOND FORM's CARD OF 'laws.FnEditInverse'. -/
def fnEditInverseUptoCard : Claim7 := { stood := { row := fnEditInverseUptoRow, standIns := [], harness := (true, "e4317ee8058a1a75cede7cc7767fd80a998b054a0ca3830f8f7cc4bdf0fa9d66"), looks := false }, kinds := [], alts := [], laidByText := true, laidKinds := [.data, .pinned], laidTests := true, laidLooks := .later }
def FnEditInverseUptoCardSaid : Prop := Claim7.holds Tryz.pinned (.plain (OpenSpec.upto fnEditInverseSpec)) fnEditInverseUptoCard

/-- THE SECOND FORM's CARD OF 'laws.FnEditList'. -/
def fnEditListUptoCard : Claim7 := { stood := { row := fnEditListUptoRow, standIns := [], harness := (true, "e4317ee8058a1a75cede7cc7767fd80a998b054a0ca3830f8f7cc4bdf0fa9d66"), looks := false }, kinds := [], alts := [], laidByText := true, laidKinds := [.data, .pinned], laidTests := true, laidLooks := .later }
def FnEditListUptoCardSaid : Prop := Claim7.holds Tryz.pinned (.plain (OpenSpec.upto fnEditListSpec)) fnEditListUptoCard

/-- THE SECOND FORM's CARD OF 'laws.FnPlacesAfter'. -/
def fnPlacesAfterUptoCard : Claim7 := { stood := { row := fnPlacesAfterUptoRow, standIns := [], harness := (true, "e4317ee8058a1a75cede7cc7767fd80a998b054a0ca3830f8f7cc4bdf0fa9d66"), looks := false }, kinds := [], alts := [], laidByText := true, laidKinds := [.data, .pinned], laidTests := true, laidLooks := .later }
def FnPlacesAfterUptoCardSaid : Prop := Claim7.holds Tryz.pinned (.plain (OpenSpec.upto fnPlacesAfterSpec)) fnPlacesAfterUptoCard
end Rows
end Go.Proofs.YtnnbgbgapogckaaGreatDoor
