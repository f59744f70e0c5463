/-
  DERIVED. GIVEN WITH THE SEED: THE CARDS: each row of YtepbknolmhmipaaGreatDoorRows.lean that lists a variable, with what it lists TIED to the program's text (the seventh form; the later family's looks); each row that meets fmt, with fmt's text TOLD by the authors' own Lean function (tested against real Go, not proved from fmt's source: count such statements apart). THE CARD IS WHAT COUNTS. Prove the row's statement (the work); the ties are given (YtepbknolmhmipaaGreatDoorTie.lean); close each card by the builder's one call (the guide's Derived/Test/ToyasCard.lean, 'card_holds'). Laid BY PROGRAM, IN A SANDBOX (cutbox-door.mjs). By AI agents, Wed Nov 11 2026. No macro, syntax, notation, axiom, sorry.
-/
import Derived.Test.YtepbknolmhmipaaGreatDoorRows
import GoSem.ClaimSeven
namespace Go.Proofs.YtepbknolmhmipaaGreatDoor
namespace Rows

/-- THE TIED CARD OF 'laws.FnExactSetupText'. -/
def fnExactSetupTextCard : Claim7 := { stood := { row := fnExactSetupTextRow, standIns := [], harness := (true, "42d0b9c65fe2543554777111a623272a69bb08c9f10be9d833b3670c7bb05c6f"), looks := false }, kinds := [], alts := [], laidByText := true, laidKinds := [.data, .data, .data, .data, .widerDeep, .pinned], laidTests := true, laidLooks := .later }
def FnExactSetupTextCardSaid : Prop := Claim7.holds Tryz.pinned (.plain (OpenSpec.ofChange fnExactSetupTextSpec)) fnExactSetupTextCard

/-- THE TIED CARD OF 'laws.FnSetupAfter'. -/
def fnSetupAfterCard : Claim7 := { stood := { row := fnSetupAfterRow, standIns := [], harness := (true, "42d0b9c65fe2543554777111a623272a69bb08c9f10be9d833b3670c7bb05c6f"), looks := false }, kinds := [], alts := [], laidByText := true, laidKinds := [.data, .data, .data, .data, .widerDeep, .pinned], laidTests := true, laidLooks := .later }
def FnSetupAfterCardSaid : Prop := Claim7.holds Tryz.pinned (.plain (OpenSpec.ofChange fnSetupAfterSpec)) fnSetupAfterCard

/-- THE TIED CARD OF 'laws.FnSessionUndo'. -/
def fnSessionUndoCard : Claim7 := { stood := { row := fnSessionUndoRow, standIns := [], harness := (true, "42d0b9c65fe2543554777111a623272a69bb08c9f10be9d833b3670c7bb05c6f"), looks := false }, kinds := [], alts := [], laidByText := true, laidKinds := [.data, .data, .data, .data, .widerDeep, .pinned], laidTests := true, laidLooks := .later }
def FnSessionUndoCardSaid : Prop := Claim7.holds Tryz.pinned (.plain (OpenSpec.ofChange fnSessionUndoSpec)) fnSessionUndoCard

/-- THE SECOND FORM's CARD OF 'laws.FnExactSetupText'. -/
def fnExactSetupTextUptoCard : Claim7 := { stood := { row := fnExactSetupTextUptoRow, standIns := [], harness := (true, "42d0b9c65fe2543554777111a623272a69bb08c9f10be9d833b3670c7bb05c6f"), looks := false }, kinds := [], alts := [], laidByText := true, laidKinds := [.data, .data, .data, .data, .widerDeep, .pinned], laidTests := true, laidLooks := .later }
def FnExactSetupTextUptoCardSaid : Prop := Claim7.holds Tryz.pinned (.plain (OpenSpec.upto fnExactSetupTextSpec)) fnExactSetupTextUptoCard

/-- THE SECOND FORM's CARD OF 'laws.FnSetupAfter'. -/
def fnSetupAfterUptoCard : Claim7 := { stood := { row := fnSetupAfterUptoRow, standIns := [], harness := (true, "42d0b9c65fe2543554777111a623272a69bb08c9f10be9d833b3670c7bb05c6f"), looks := false }, kinds := [], alts := [], laidByText := true, laidKinds := [.data, .data, .data, .data, .widerDeep, .pinned], laidTests := true, laidLooks := .later }
def FnSetupAfterUptoCardSaid : Prop := Claim7.holds Tryz.pinned (.plain (OpenSpec.upto fnSetupAfterSpec)) fnSetupAfterUptoCard

/-- THE SECOND FORM's CARD OF 'laws.FnSessionUndo'. -/
def fnSessionUndoUptoCard : Claim7 := { stood := { row := fnSessionUndoUptoRow, standIns := [], harness := (true, "42d0b9c65fe2543554777111a623272a69bb08c9f10be9d833b3670c7bb05c6f"), looks := false }, kinds := [], alts := [], laidByText := true, laidKinds := [.data, .data, .data, .data, .widerDeep, .pinned], laidTests := true, laidLooks := .later }
def FnSessionUndoUptoCardSaid : Prop := Claim7.holds Tryz.pinned (.plain (OpenSpec.upto fnSessionUndoSpec)) fnSessionUndoUptoCard
end Rows
end Go.Proofs.YtepbknolmhmipaaGreatDoor
