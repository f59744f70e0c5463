/-
  DERIVED. GIVEN WITH THE SEED: THE CARDS: each row of YtdabmnfkcnkkbaaGreatDoorRows.lean that lists a variable, with what it lists TIED to the program's text (the seventh form; the later family's looks); each row that meets fmt, with fmt's text TOLD by the authors' own Lean function (tested against real Go, not proved from fmt's source: count such statements apart). THE CARD IS WHAT COUNTS. Prove the row's statement (the work); the ties are given (YtdabmnfkcnkkbaaGreatDoorTie.lean); close each card by the builder's one call (the guide's Derived/Test/ToyasCard.lean, 'card_holds'). Laid BY PROGRAM, IN A SANDBOX (cutbox-door.mjs). By AI agents, Wed Nov 11 2026. No macro, syntax, notation, axiom, sorry.
-/
import Derived.Test.YtdabmnfkcnkkbaaGreatDoorRows
import GoSem.ClaimSeven
namespace Go.Proofs.YtdabmnfkcnkkbaaGreatDoor
namespace Rows

/-- THE TIED CARD OF 'laws.FnExactDirtyNodes'. -/
def fnExactDirtyNodesCard : Claim7 := { stood := { row := fnExactDirtyNodesRow, standIns := [], harness := (true, "e98e2cc6fb7e263f7feecb2a7baec068b75a8ca8417092329d851b41d0093f35"), looks := false }, kinds := [], alts := [], laidByText := true, laidKinds := [.data, .pinned], laidTests := true, laidLooks := .later }
def FnExactDirtyNodesCardSaid : Prop := Claim7.holds Tryz.pinned (.plain (OpenSpec.ofChange fnExactDirtyNodesSpec)) fnExactDirtyNodesCard

/-- THE SECOND FORM's CARD OF 'laws.FnExactDirtyNodes'. -/
def fnExactDirtyNodesUptoCard : Claim7 := { stood := { row := fnExactDirtyNodesUptoRow, standIns := [], harness := (true, "e98e2cc6fb7e263f7feecb2a7baec068b75a8ca8417092329d851b41d0093f35"), looks := false }, kinds := [], alts := [], laidByText := true, laidKinds := [.data, .pinned], laidTests := true, laidLooks := .later }
def FnExactDirtyNodesUptoCardSaid : Prop := Claim7.holds Tryz.pinned (.plain (OpenSpec.upto fnExactDirtyNodesSpec)) fnExactDirtyNodesUptoCard
end Rows
end Go.Proofs.YtdabmnfkcnkkbaaGreatDoor
