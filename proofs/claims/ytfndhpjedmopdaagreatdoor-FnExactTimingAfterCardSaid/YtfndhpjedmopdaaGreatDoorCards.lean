/-
  DERIVED. GIVEN WITH THE SEED: THE CARDS: each row of YtfndhpjedmopdaaGreatDoorRows.lean that lists a variable, with what it lists TIED to the program's text (the seventh form; the later family's looks); each row that meets fmt, with fmt's text TOLD by the authors' own Lean function (tested against real Go, not proved from fmt's source: count such statements apart). THE CARD IS WHAT COUNTS. Prove the row's statement (the work); the ties are given (YtfndhpjedmopdaaGreatDoorTie.lean); close each card by the builder's one call (the guide's Derived/Test/ToyasCard.lean, 'card_holds'). Laid BY PROGRAM, IN A SANDBOX (cutbox-door.mjs). By AI agents, Wed Nov 11 2026. No macro, syntax, notation, axiom, sorry.
-/
import Derived.Test.YtfndhpjedmopdaaGreatDoorRows
import GoSem.ClaimSeven
namespace Go.Proofs.YtfndhpjedmopdaaGreatDoor
namespace Rows

/-- THE TIED CARD OF 'laws.FnExactApplyEdits'. -/
def fnExactApplyEditsCard : Claim7 := { stood := { row := fnExactApplyEditsRow, standIns := [], harness := (true, "86f0d75da0956d0a53aeed92f76b442ae4cc078793a715fd63cae6cc9e85e581"), looks := false }, kinds := [], alts := [], laidByText := true, laidKinds := [.data, .pinned], laidTests := true, laidLooks := .later }
def FnExactApplyEditsCardSaid : Prop := Claim7.holds Tryz.pinned (.plain (OpenSpec.ofChange fnExactApplyEditsSpec)) fnExactApplyEditsCard

/-- THE TIED CARD OF 'laws.FnExactTimingAfter'. -/
def fnExactTimingAfterCard : Claim7 := { stood := { row := fnExactTimingAfterRow, standIns := [], harness := (true, "86f0d75da0956d0a53aeed92f76b442ae4cc078793a715fd63cae6cc9e85e581"), looks := false }, kinds := [], alts := [], laidByText := true, laidKinds := [.data, .pinned], laidTests := true, laidLooks := .later }
def FnExactTimingAfterCardSaid : Prop := Claim7.holds Tryz.pinned (.plain (OpenSpec.ofChange fnExactTimingAfterSpec)) fnExactTimingAfterCard

/-- THE TIED CARD OF 'laws.FnExactDirtyNodes'. -/
def fnExactDirtyNodesCard : Claim7 := { stood := { row := fnExactDirtyNodesRow, standIns := [], harness := (true, "86f0d75da0956d0a53aeed92f76b442ae4cc078793a715fd63cae6cc9e85e581"), looks := false }, kinds := [], alts := [], laidByText := true, laidKinds := [.data, .pinned], laidTests := true, laidLooks := .later }
def FnExactDirtyNodesCardSaid : Prop := Claim7.holds Tryz.pinned (.plain (OpenSpec.ofChange fnExactDirtyNodesSpec)) fnExactDirtyNodesCard

/-- THE SECOND FORM's CARD OF 'laws.FnExactApplyEdits'. -/
def fnExactApplyEditsUptoCard : Claim7 := { stood := { row := fnExactApplyEditsUptoRow, standIns := [], harness := (true, "86f0d75da0956d0a53aeed92f76b442ae4cc078793a715fd63cae6cc9e85e581"), looks := false }, kinds := [], alts := [], laidByText := true, laidKinds := [.data, .pinned], laidTests := true, laidLooks := .later }
def FnExactApplyEditsUptoCardSaid : Prop := Claim7.holds Tryz.pinned (.plain (OpenSpec.upto fnExactApplyEditsSpec)) fnExactApplyEditsUptoCard

/-- THE SECOND FORM's CARD OF 'laws.FnExactTimingAfter'. -/
def fnExactTimingAfterUptoCard : Claim7 := { stood := { row := fnExactTimingAfterUptoRow, standIns := [], harness := (true, "86f0d75da0956d0a53aeed92f76b442ae4cc078793a715fd63cae6cc9e85e581"), looks := false }, kinds := [], alts := [], laidByText := true, laidKinds := [.data, .pinned], laidTests := true, laidLooks := .later }
def FnExactTimingAfterUptoCardSaid : Prop := Claim7.holds Tryz.pinned (.plain (OpenSpec.upto fnExactTimingAfterSpec)) fnExactTimingAfterUptoCard

/-- THE SECOND FORM's CARD OF 'laws.FnExactDirtyNodes'. -/
def fnExactDirtyNodesUptoCard : Claim7 := { stood := { row := fnExactDirtyNodesUptoRow, standIns := [], harness := (true, "86f0d75da0956d0a53aeed92f76b442ae4cc078793a715fd63cae6cc9e85e581"), looks := false }, kinds := [], alts := [], laidByText := true, laidKinds := [.data, .pinned], laidTests := true, laidLooks := .later }
def FnExactDirtyNodesUptoCardSaid : Prop := Claim7.holds Tryz.pinned (.plain (OpenSpec.upto fnExactDirtyNodesSpec)) fnExactDirtyNodesUptoCard
end Rows
end Go.Proofs.YtfndhpjedmopdaaGreatDoor
