/-
  DERIVED. GIVEN WITH THE SEED: THE CARDS: each row of YtpiemlnhjobopaaGreatDoorRows.lean that lists a variable, with what it lists TIED to the program's text (the seventh form; the later family's looks); each row that meets fmt, with fmt's text TOLD by the authors' own Lean function (tested against real Go, not proved from fmt's source: count such statements apart). THE CARD IS WHAT COUNTS. Prove the row's statement (the work); the ties are given (YtpiemlnhjobopaaGreatDoorTie.lean); close each card by the builder's one call (the guide's Derived/Test/ToyasCard.lean, 'card_holds'). Laid BY PROGRAM, IN A SANDBOX (cutbox-door.mjs). By AI agents, Wed Nov 11 2026. No macro, syntax, notation, axiom, sorry.
-/
import Derived.Test.YtpiemlnhjobopaaGreatDoorRows
import GoSem.ClaimSeven
namespace Go.Proofs.YtpiemlnhjobopaaGreatDoor
namespace Rows

/-- THE TIED CARD OF 'laws.FnExactSetupSources'. -/
def fnExactSetupSourcesCard : Claim7 := { stood := { row := fnExactSetupSourcesRow, standIns := [], harness := (true, "d8ae12be44359a3b2e6463463e9d94fd286e8751d9021832d6dd55c8545f7f33"), looks := false }, kinds := [], alts := [], laidByText := true, laidKinds := [.data, .pinned], laidTests := true, laidLooks := .later }
def FnExactSetupSourcesCardSaid : Prop := Claim7.holds Tryz.pinned (.plain (OpenSpec.ofChange fnExactSetupSourcesSpec)) fnExactSetupSourcesCard

/-- THE TIED CARD OF 'laws.FnExactWrongNodes'. -/
def fnExactWrongNodesCard : Claim7 := { stood := { row := fnExactWrongNodesRow, standIns := [], harness := (true, "d8ae12be44359a3b2e6463463e9d94fd286e8751d9021832d6dd55c8545f7f33"), looks := false }, kinds := [], alts := [], laidByText := true, laidKinds := [.data, .pinned], laidTests := true, laidLooks := .later }
def FnExactWrongNodesCardSaid : Prop := Claim7.holds Tryz.pinned (.plain (OpenSpec.ofChange fnExactWrongNodesSpec)) fnExactWrongNodesCard

/-- THE TIED CARD OF 'laws.FnExactUpdateTiming'. -/
def fnExactUpdateTimingCard : Claim7 := { stood := { row := fnExactUpdateTimingRow, standIns := [], harness := (true, "d8ae12be44359a3b2e6463463e9d94fd286e8751d9021832d6dd55c8545f7f33"), looks := false }, kinds := [], alts := [], laidByText := true, laidKinds := [.data, .pinned], laidTests := true, laidLooks := .later }
def FnExactUpdateTimingCardSaid : Prop := Claim7.holds Tryz.pinned (.plain (OpenSpec.ofChange fnExactUpdateTimingSpec)) fnExactUpdateTimingCard

/-- THE SECOND FORM's CARD OF 'laws.FnExactSetupSources'. -/
def fnExactSetupSourcesUptoCard : Claim7 := { stood := { row := fnExactSetupSourcesUptoRow, standIns := [], harness := (true, "d8ae12be44359a3b2e6463463e9d94fd286e8751d9021832d6dd55c8545f7f33"), looks := false }, kinds := [], alts := [], laidByText := true, laidKinds := [.data, .pinned], laidTests := true, laidLooks := .later }
def FnExactSetupSourcesUptoCardSaid : Prop := Claim7.holds Tryz.pinned (.plain (OpenSpec.upto fnExactSetupSourcesSpec)) fnExactSetupSourcesUptoCard

/-- THE SECOND FORM's CARD OF 'laws.FnExactWrongNodes'. -/
def fnExactWrongNodesUptoCard : Claim7 := { stood := { row := fnExactWrongNodesUptoRow, standIns := [], harness := (true, "d8ae12be44359a3b2e6463463e9d94fd286e8751d9021832d6dd55c8545f7f33"), looks := false }, kinds := [], alts := [], laidByText := true, laidKinds := [.data, .pinned], laidTests := true, laidLooks := .later }
def FnExactWrongNodesUptoCardSaid : Prop := Claim7.holds Tryz.pinned (.plain (OpenSpec.upto fnExactWrongNodesSpec)) fnExactWrongNodesUptoCard

/-- THE SECOND FORM's CARD OF 'laws.FnExactUpdateTiming'. -/
def fnExactUpdateTimingUptoCard : Claim7 := { stood := { row := fnExactUpdateTimingUptoRow, standIns := [], harness := (true, "d8ae12be44359a3b2e6463463e9d94fd286e8751d9021832d6dd55c8545f7f33"), looks := false }, kinds := [], alts := [], laidByText := true, laidKinds := [.data, .pinned], laidTests := true, laidLooks := .later }
def FnExactUpdateTimingUptoCardSaid : Prop := Claim7.holds Tryz.pinned (.plain (OpenSpec.upto fnExactUpdateTimingSpec)) fnExactUpdateTimingUptoCard
end Rows
end Go.Proofs.YtpiemlnhjobopaaGreatDoor
