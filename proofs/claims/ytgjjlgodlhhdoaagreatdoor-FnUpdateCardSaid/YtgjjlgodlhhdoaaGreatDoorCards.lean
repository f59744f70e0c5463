/-
  DERIVED. GIVEN WITH THE SEED: THE CARDS: each row of YtgjjlgodlhhdoaaGreatDoorRows.lean that lists a variable, with what it lists TIED to the program's text (the seventh form; the later family's looks); each row that meets fmt, with fmt's text TOLD by the authors' own Lean function (tested against real Go, not proved from fmt's source: count such statements apart). THE CARD IS WHAT COUNTS. Prove the row's statement (the work); the ties are given (YtgjjlgodlhhdoaaGreatDoorTie.lean); close each card by the builder's one call (the guide's Derived/Test/ToyasCard.lean, 'card_holds'). Laid BY PROGRAM, IN A SANDBOX (cutbox-door.mjs). By AI agents, Wed Nov 11 2026. No macro, syntax, notation, axiom, sorry.
-/
import Derived.Test.YtgjjlgodlhhdoaaGreatDoorRows
import GoSem.ClaimSeven
namespace Go.Proofs.YtgjjlgodlhhdoaaGreatDoor
namespace Rows

/-- THE TIED CARD OF 'laws.FnTop'. -/
def fnTopCard : Claim7 := { stood := { row := fnTopRow, standIns := [], harness := (true, "e54a54501499c8bf41780fb60c3bbde918b07d05d003c7acfdd1836a47d6471d"), looks := false }, kinds := [], alts := [], laidByText := true, laidKinds := [.data, .pinned], laidTests := true, laidLooks := .later }
def FnTopCardSaid : Prop := Claim7.holds Tryz.pinned (.plain (OpenSpec.ofChange fnTopSpec)) fnTopCard

/-- THE TIED CARD OF 'laws.FnWrongNodes'. -/
def fnWrongNodesCard : Claim7 := { stood := { row := fnWrongNodesRow, standIns := [], harness := (true, "e54a54501499c8bf41780fb60c3bbde918b07d05d003c7acfdd1836a47d6471d"), looks := false }, kinds := [], alts := [], laidByText := true, laidKinds := [.data, .pinned], laidTests := true, laidLooks := .later }
def FnWrongNodesCardSaid : Prop := Claim7.holds Tryz.pinned (.plain (OpenSpec.ofChange fnWrongNodesSpec)) fnWrongNodesCard

/-- THE TIED CARD OF 'laws.FnUpdate'. -/
def fnUpdateCard : Claim7 := { stood := { row := fnUpdateRow, standIns := [], harness := (true, "e54a54501499c8bf41780fb60c3bbde918b07d05d003c7acfdd1836a47d6471d"), looks := false }, kinds := [], alts := [], laidByText := true, laidKinds := [.data, .pinned], laidTests := true, laidLooks := .later }
def FnUpdateCardSaid : Prop := Claim7.holds Tryz.pinned (.plain (OpenSpec.ofChange fnUpdateSpec)) fnUpdateCard

/-- THE TIED CARD OF 'laws.FnIncremental'. -/
def fnIncrementalCard : Claim7 := { stood := { row := fnIncrementalRow, standIns := [], harness := (true, "e54a54501499c8bf41780fb60c3bbde918b07d05d003c7acfdd1836a47d6471d"), looks := false }, kinds := [], alts := [], laidByText := true, laidKinds := [.data, .pinned], laidTests := true, laidLooks := .later }
def FnIncrementalCardSaid : Prop := Claim7.holds Tryz.pinned (.plain (OpenSpec.ofChange fnIncrementalSpec)) fnIncrementalCard

/-- THE TIED CARD OF 'laws.FnTopOfAll'. -/
def fnTopOfAllCard : Claim7 := { stood := { row := fnTopOfAllRow, standIns := [], harness := (true, "e54a54501499c8bf41780fb60c3bbde918b07d05d003c7acfdd1836a47d6471d"), looks := false }, kinds := [], alts := [], laidByText := true, laidKinds := [.data, .pinned], laidTests := true, laidLooks := .later }
def FnTopOfAllCardSaid : Prop := Claim7.holds Tryz.pinned (.plain (OpenSpec.ofChange fnTopOfAllSpec)) fnTopOfAllCard

/-- THE SECOND FORM's CARD OF 'laws.FnTop'. -/
def fnTopUptoCard : Claim7 := { stood := { row := fnTopUptoRow, standIns := [], harness := (true, "e54a54501499c8bf41780fb60c3bbde918b07d05d003c7acfdd1836a47d6471d"), looks := false }, kinds := [], alts := [], laidByText := true, laidKinds := [.data, .pinned], laidTests := true, laidLooks := .later }
def FnTopUptoCardSaid : Prop := Claim7.holds Tryz.pinned (.plain (OpenSpec.upto fnTopSpec)) fnTopUptoCard

/-- THE SECOND FORM's CARD OF 'laws.FnWrongNodes'. -/
def fnWrongNodesUptoCard : Claim7 := { stood := { row := fnWrongNodesUptoRow, standIns := [], harness := (true, "e54a54501499c8bf41780fb60c3bbde918b07d05d003c7acfdd1836a47d6471d"), looks := false }, kinds := [], alts := [], laidByText := true, laidKinds := [.data, .pinned], laidTests := true, laidLooks := .later }
def FnWrongNodesUptoCardSaid : Prop := Claim7.holds Tryz.pinned (.plain (OpenSpec.upto fnWrongNodesSpec)) fnWrongNodesUptoCard

/-- THE SECOND FORM's CARD OF 'laws.FnUpdate'. -/
def fnUpdateUptoCard : Claim7 := { stood := { row := fnUpdateUptoRow, standIns := [], harness := (true, "e54a54501499c8bf41780fb60c3bbde918b07d05d003c7acfdd1836a47d6471d"), looks := false }, kinds := [], alts := [], laidByText := true, laidKinds := [.data, .pinned], laidTests := true, laidLooks := .later }
def FnUpdateUptoCardSaid : Prop := Claim7.holds Tryz.pinned (.plain (OpenSpec.upto fnUpdateSpec)) fnUpdateUptoCard

/-- THE SECOND FORM's CARD OF 'laws.FnIncremental'. -/
def fnIncrementalUptoCard : Claim7 := { stood := { row := fnIncrementalUptoRow, standIns := [], harness := (true, "e54a54501499c8bf41780fb60c3bbde918b07d05d003c7acfdd1836a47d6471d"), looks := false }, kinds := [], alts := [], laidByText := true, laidKinds := [.data, .pinned], laidTests := true, laidLooks := .later }
def FnIncrementalUptoCardSaid : Prop := Claim7.holds Tryz.pinned (.plain (OpenSpec.upto fnIncrementalSpec)) fnIncrementalUptoCard

/-- THE SECOND FORM's CARD OF 'laws.FnTopOfAll'. -/
def fnTopOfAllUptoCard : Claim7 := { stood := { row := fnTopOfAllUptoRow, standIns := [], harness := (true, "e54a54501499c8bf41780fb60c3bbde918b07d05d003c7acfdd1836a47d6471d"), looks := false }, kinds := [], alts := [], laidByText := true, laidKinds := [.data, .pinned], laidTests := true, laidLooks := .later }
def FnTopOfAllUptoCardSaid : Prop := Claim7.holds Tryz.pinned (.plain (OpenSpec.upto fnTopOfAllSpec)) fnTopOfAllUptoCard
end Rows
end Go.Proofs.YtgjjlgodlhhdoaaGreatDoor
