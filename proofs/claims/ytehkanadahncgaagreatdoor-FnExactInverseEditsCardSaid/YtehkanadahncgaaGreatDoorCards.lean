/-
  DERIVED. GIVEN WITH THE SEED: THE CARDS: each row of YtehkanadahncgaaGreatDoorRows.lean that lists a variable, with what it lists TIED to the program's text (the seventh form; the later family's looks); each row that meets fmt, with fmt's text TOLD by the authors' own Lean function (tested against real Go, not proved from fmt's source: count such statements apart). THE CARD IS WHAT COUNTS. Prove the row's statement (the work); the ties are given (YtehkanadahncgaaGreatDoorTie.lean); close each card by the builder's one call (the guide's Derived/Test/ToyasCard.lean, 'card_holds'). Laid BY PROGRAM, IN A SANDBOX (cutbox-door.mjs). By AI agents, Wed Nov 11 2026. No macro, syntax, notation, axiom, sorry.
-/
import Derived.Test.YtehkanadahncgaaGreatDoorRows
import GoSem.ClaimSeven
namespace Go.Proofs.YtehkanadahncgaaGreatDoor
namespace Rows

/-- THE TIED CARD OF 'laws.FnExactInverseEdits'. -/
def fnExactInverseEditsCard : Claim7 := { stood := { row := fnExactInverseEditsRow, standIns := [], harness := (true, "4919b076115d420ad096c1ac2ec981d5b645c1bbf36ea6eb5561535f51640d46"), looks := false }, kinds := [], alts := [], laidByText := true, laidKinds := [.data, .pinned], laidTests := true, laidLooks := .later }
def FnExactInverseEditsCardSaid : Prop := Claim7.holds Tryz.pinned (.plain (OpenSpec.ofChange fnExactInverseEditsSpec)) fnExactInverseEditsCard

/-- THE TIED CARD OF 'laws.FnExactApplyEdit'. -/
def fnExactApplyEditCard : Claim7 := { stood := { row := fnExactApplyEditRow, standIns := [], harness := (true, "4919b076115d420ad096c1ac2ec981d5b645c1bbf36ea6eb5561535f51640d46"), looks := false }, kinds := [], alts := [], laidByText := true, laidKinds := [.data, .pinned], laidTests := true, laidLooks := .later }
def FnExactApplyEditCardSaid : Prop := Claim7.holds Tryz.pinned (.plain (OpenSpec.ofChange fnExactApplyEditSpec)) fnExactApplyEditCard

/-- THE TIED CARD OF 'laws.FnExactApplyEdits'. -/
def fnExactApplyEditsCard : Claim7 := { stood := { row := fnExactApplyEditsRow, standIns := [], harness := (true, "4919b076115d420ad096c1ac2ec981d5b645c1bbf36ea6eb5561535f51640d46"), looks := false }, kinds := [], alts := [], laidByText := true, laidKinds := [.data, .pinned], laidTests := true, laidLooks := .later }
def FnExactApplyEditsCardSaid : Prop := Claim7.holds Tryz.pinned (.plain (OpenSpec.ofChange fnExactApplyEditsSpec)) fnExactApplyEditsCard

/-- THE TIED CARD OF 'laws.FnEditInverse'. -/
def fnEditInverseCard : Claim7 := { stood := { row := fnEditInverseRow, standIns := [], harness := (true, "4919b076115d420ad096c1ac2ec981d5b645c1bbf36ea6eb5561535f51640d46"), looks := false }, kinds := [], alts := [], laidByText := true, laidKinds := [.data, .pinned], laidTests := true, laidLooks := .later }
def FnEditInverseCardSaid : Prop := Claim7.holds Tryz.pinned (.plain (OpenSpec.ofChange fnEditInverseSpec)) fnEditInverseCard

/-- THE SECOND FORM's CARD OF 'laws.FnExactInverseEdits'. -/
def fnExactInverseEditsUptoCard : Claim7 := { stood := { row := fnExactInverseEditsUptoRow, standIns := [], harness := (true, "4919b076115d420ad096c1ac2ec981d5b645c1bbf36ea6eb5561535f51640d46"), looks := false }, kinds := [], alts := [], laidByText := true, laidKinds := [.data, .pinned], laidTests := true, laidLooks := .later }
def FnExactInverseEditsUptoCardSaid : Prop := Claim7.holds Tryz.pinned (.plain (OpenSpec.upto fnExactInverseEditsSpec)) fnExactInverseEditsUptoCard

/-- THE SECOND FORM's CARD OF 'laws.FnExactApplyEdit'. -/
def fnExactApplyEditUptoCard : Claim7 := { stood := { row := fnExactApplyEditUptoRow, standIns := [], harness := (true, "4919b076115d420ad096c1ac2ec981d5b645c1bbf36ea6eb5561535f51640d46"), looks := false }, kinds := [], alts := [], laidByText := true, laidKinds := [.data, .pinned], laidTests := true, laidLooks := .later }
def FnExactApplyEditUptoCardSaid : Prop := Claim7.holds Tryz.pinned (.plain (OpenSpec.upto fnExactApplyEditSpec)) fnExactApplyEditUptoCard

/-- THE SECOND FORM's CARD OF 'laws.FnExactApplyEdits'. -/
def fnExactApplyEditsUptoCard : Claim7 := { stood := { row := fnExactApplyEditsUptoRow, standIns := [], harness := (true, "4919b076115d420ad096c1ac2ec981d5b645c1bbf36ea6eb5561535f51640d46"), looks := false }, kinds := [], alts := [], laidByText := true, laidKinds := [.data, .pinned], laidTests := true, laidLooks := .later }
def FnExactApplyEditsUptoCardSaid : Prop := Claim7.holds Tryz.pinned (.plain (OpenSpec.upto fnExactApplyEditsSpec)) fnExactApplyEditsUptoCard

/-- THE SECOND FORM's CARD OF 'laws.FnEditInverse'. -/
def fnEditInverseUptoCard : Claim7 := { stood := { row := fnEditInverseUptoRow, standIns := [], harness := (true, "4919b076115d420ad096c1ac2ec981d5b645c1bbf36ea6eb5561535f51640d46"), looks := false }, kinds := [], alts := [], laidByText := true, laidKinds := [.data, .pinned], laidTests := true, laidLooks := .later }
def FnEditInverseUptoCardSaid : Prop := Claim7.holds Tryz.pinned (.plain (OpenSpec.upto fnEditInverseSpec)) fnEditInverseUptoCard
end Rows
end Go.Proofs.YtehkanadahncgaaGreatDoor
