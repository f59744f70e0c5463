/-
  DERIVED. GIVEN WITH THE SEED: THE CARDS: each row of YtclfgjepbamnlaaGreatDoorRows.lean that lists a variable, with what it lists TIED to the program's text (the seventh form; the later family's looks); each row that meets fmt, with fmt's text TOLD by the authors' own Lean function (tested against real Go, not proved from fmt's source: count such statements apart). THE CARD IS WHAT COUNTS. Prove the row's statement (the work); the ties are given (YtclfgjepbamnlaaGreatDoorTie.lean); close each card by the builder's one call (the guide's Derived/Test/ToyasCard.lean, 'card_holds'). Laid BY PROGRAM, IN A SANDBOX (cutbox-door.mjs). By AI agents, Wed Nov 11 2026. No macro, syntax, notation, axiom, sorry.
-/
import Derived.Test.YtclfgjepbamnlaaGreatDoorRows
import GoSem.ClaimSeven
namespace Go.Proofs.YtclfgjepbamnlaaGreatDoor
namespace Rows

/-- THE TIED CARD OF 'laws.FnExactWrongNodes'. -/
def fnExactWrongNodesCard : Claim7 := { stood := { row := fnExactWrongNodesRow, standIns := [], harness := (true, "50617e436dce0d6e2e80ec34c680027656b2d57993440acc8682626ca8f338b8"), looks := false }, kinds := [], alts := [], laidByText := true, laidKinds := [.data, .pinned], laidTests := true, laidLooks := .later }
def FnExactWrongNodesCardSaid : Prop := Claim7.holds Tryz.pinned (.plain (OpenSpec.ofChange fnExactWrongNodesSpec)) fnExactWrongNodesCard

/-- THE TIED CARD OF 'laws.FnExactUpdateTiming'. -/
def fnExactUpdateTimingCard : Claim7 := { stood := { row := fnExactUpdateTimingRow, standIns := [], harness := (true, "50617e436dce0d6e2e80ec34c680027656b2d57993440acc8682626ca8f338b8"), looks := false }, kinds := [], alts := [], laidByText := true, laidKinds := [.data, .pinned], laidTests := true, laidLooks := .later }
def FnExactUpdateTimingCardSaid : Prop := Claim7.holds Tryz.pinned (.plain (OpenSpec.ofChange fnExactUpdateTimingSpec)) fnExactUpdateTimingCard

/-- THE TIED CARD OF 'laws.FnExactIncrementalTiming'. -/
def fnExactIncrementalTimingCard : Claim7 := { stood := { row := fnExactIncrementalTimingRow, standIns := [], harness := (true, "50617e436dce0d6e2e80ec34c680027656b2d57993440acc8682626ca8f338b8"), looks := false }, kinds := [], alts := [], laidByText := true, laidKinds := [.data, .pinned], laidTests := true, laidLooks := .later }
def FnExactIncrementalTimingCardSaid : Prop := Claim7.holds Tryz.pinned (.plain (OpenSpec.ofChange fnExactIncrementalTimingSpec)) fnExactIncrementalTimingCard

/-- THE SECOND FORM's CARD OF 'laws.FnExactWrongNodes'. -/
def fnExactWrongNodesUptoCard : Claim7 := { stood := { row := fnExactWrongNodesUptoRow, standIns := [], harness := (true, "50617e436dce0d6e2e80ec34c680027656b2d57993440acc8682626ca8f338b8"), looks := false }, kinds := [], alts := [], laidByText := true, laidKinds := [.data, .pinned], laidTests := true, laidLooks := .later }
def FnExactWrongNodesUptoCardSaid : Prop := Claim7.holds Tryz.pinned (.plain (OpenSpec.upto fnExactWrongNodesSpec)) fnExactWrongNodesUptoCard

/-- THE SECOND FORM's CARD OF 'laws.FnExactUpdateTiming'. -/
def fnExactUpdateTimingUptoCard : Claim7 := { stood := { row := fnExactUpdateTimingUptoRow, standIns := [], harness := (true, "50617e436dce0d6e2e80ec34c680027656b2d57993440acc8682626ca8f338b8"), looks := false }, kinds := [], alts := [], laidByText := true, laidKinds := [.data, .pinned], laidTests := true, laidLooks := .later }
def FnExactUpdateTimingUptoCardSaid : Prop := Claim7.holds Tryz.pinned (.plain (OpenSpec.upto fnExactUpdateTimingSpec)) fnExactUpdateTimingUptoCard

/-- THE SECOND FORM's CARD OF 'laws.FnExactIncrementalTiming'. -/
def fnExactIncrementalTimingUptoCard : Claim7 := { stood := { row := fnExactIncrementalTimingUptoRow, standIns := [], harness := (true, "50617e436dce0d6e2e80ec34c680027656b2d57993440acc8682626ca8f338b8"), looks := false }, kinds := [], alts := [], laidByText := true, laidKinds := [.data, .pinned], laidTests := true, laidLooks := .later }
def FnExactIncrementalTimingUptoCardSaid : Prop := Claim7.holds Tryz.pinned (.plain (OpenSpec.upto fnExactIncrementalTimingSpec)) fnExactIncrementalTimingUptoCard
end Rows
end Go.Proofs.YtclfgjepbamnlaaGreatDoor
