/-
  DERIVED. GIVEN WITH THE SEED: THE CARDS: each row of YtcjminfjgckdlaaGreatDoorRows.lean that lists a variable, with what it lists TIED to the program's text (the seventh form; the later family's looks); each row that meets fmt, with fmt's text TOLD by the authors' own Lean function (tested against real Go, not proved from fmt's source: count such statements apart). THE CARD IS WHAT COUNTS. Prove the row's statement (the work); the ties are given (YtcjminfjgckdlaaGreatDoorTie.lean); close each card by the builder's one call (the guide's Derived/Test/ToyasCard.lean, 'card_holds'). Laid BY PROGRAM, IN A SANDBOX (cutbox-door.mjs). By AI agents, Wed Nov 11 2026. No macro, syntax, notation, axiom, sorry.
-/
import Derived.Test.YtcjminfjgckdlaaGreatDoorRows
import GoSem.ClaimSeven
namespace Go.Proofs.YtcjminfjgckdlaaGreatDoor
namespace Rows

/-- THE TIED CARD OF 'laws.FnTop'. -/
def fnTopCard : Claim7 := { stood := { row := fnTopRow, standIns := [], harness := (true, "1a142f3d6dea450d87a08950cb4087517503f65d37a63281a2faaf239ed2d2fe"), looks := false }, kinds := [], alts := [], laidByText := true, laidKinds := [.data, .pinned], laidTests := true, laidLooks := .later }
def FnTopCardSaid : Prop := Claim7.holds Tryz.pinned (.plain (OpenSpec.ofChange fnTopSpec)) fnTopCard

/-- THE TIED CARD OF 'laws.FnIncremental'. -/
def fnIncrementalCard : Claim7 := { stood := { row := fnIncrementalRow, standIns := [], harness := (true, "1a142f3d6dea450d87a08950cb4087517503f65d37a63281a2faaf239ed2d2fe"), looks := false }, kinds := [], alts := [], laidByText := true, laidKinds := [.data, .pinned], laidTests := true, laidLooks := .later }
def FnIncrementalCardSaid : Prop := Claim7.holds Tryz.pinned (.plain (OpenSpec.ofChange fnIncrementalSpec)) fnIncrementalCard

/-- THE TIED CARD OF 'laws.FnTopOfAll'. -/
def fnTopOfAllCard : Claim7 := { stood := { row := fnTopOfAllRow, standIns := [], harness := (true, "1a142f3d6dea450d87a08950cb4087517503f65d37a63281a2faaf239ed2d2fe"), looks := false }, kinds := [], alts := [], laidByText := true, laidKinds := [.data, .pinned], laidTests := true, laidLooks := .later }
def FnTopOfAllCardSaid : Prop := Claim7.holds Tryz.pinned (.plain (OpenSpec.ofChange fnTopOfAllSpec)) fnTopOfAllCard

/-- THE SECOND FORM's CARD OF 'laws.FnTop'. -/
def fnTopUptoCard : Claim7 := { stood := { row := fnTopUptoRow, standIns := [], harness := (true, "1a142f3d6dea450d87a08950cb4087517503f65d37a63281a2faaf239ed2d2fe"), looks := false }, kinds := [], alts := [], laidByText := true, laidKinds := [.data, .pinned], laidTests := true, laidLooks := .later }
def FnTopUptoCardSaid : Prop := Claim7.holds Tryz.pinned (.plain (OpenSpec.upto fnTopSpec)) fnTopUptoCard

/-- THE SECOND FORM's CARD OF 'laws.FnIncremental'. -/
def fnIncrementalUptoCard : Claim7 := { stood := { row := fnIncrementalUptoRow, standIns := [], harness := (true, "1a142f3d6dea450d87a08950cb4087517503f65d37a63281a2faaf239ed2d2fe"), looks := false }, kinds := [], alts := [], laidByText := true, laidKinds := [.data, .pinned], laidTests := true, laidLooks := .later }
def FnIncrementalUptoCardSaid : Prop := Claim7.holds Tryz.pinned (.plain (OpenSpec.upto fnIncrementalSpec)) fnIncrementalUptoCard

/-- THE SECOND FORM's CARD OF 'laws.FnTopOfAll'. -/
def fnTopOfAllUptoCard : Claim7 := { stood := { row := fnTopOfAllUptoRow, standIns := [], harness := (true, "1a142f3d6dea450d87a08950cb4087517503f65d37a63281a2faaf239ed2d2fe"), looks := false }, kinds := [], alts := [], laidByText := true, laidKinds := [.data, .pinned], laidTests := true, laidLooks := .later }
def FnTopOfAllUptoCardSaid : Prop := Claim7.holds Tryz.pinned (.plain (OpenSpec.upto fnTopOfAllSpec)) fnTopOfAllUptoCard
end Rows
end Go.Proofs.YtcjminfjgckdlaaGreatDoor
