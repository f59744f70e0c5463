/-
  DERIVED. GIVEN WITH THE SEED: THE CARDS: each row of YtjkccpcebpeadaaGreatDoorRows.lean that lists a variable, with what it lists TIED to the program's text (the seventh form; the later family's looks); each row that meets fmt, with fmt's text TOLD by the authors' own Lean function (tested against real Go, not proved from fmt's source: count such statements apart). THE CARD IS WHAT COUNTS. Prove the row's statement (the work); the ties are given (YtjkccpcebpeadaaGreatDoorTie.lean); close each card by the builder's one call (the guide's Derived/Test/ToyasCard.lean, 'card_holds'). Laid BY PROGRAM, IN A SANDBOX (cutbox-door.mjs). By AI agents, Wed Nov 11 2026. No macro, syntax, notation, axiom, sorry.
-/
import Derived.Test.YtjkccpcebpeadaaGreatDoorRows
import GoSem.ClaimSeven
namespace Go.Proofs.YtjkccpcebpeadaaGreatDoor
namespace Rows

/-- THE TIED CARD OF 'laws.FnSetupTiming'. -/
def fnSetupTimingCard : Claim7 := { stood := { row := fnSetupTimingRow, standIns := [], harness := (true, "c93ade1e7b034d1888e8edf8af8103eb98ee4af8022e27f22f79c821266f62b9"), looks := false }, kinds := [], alts := [], laidByText := true, laidKinds := [.data, .pinned], laidTests := true, laidLooks := .later }
def FnSetupTimingCardSaid : Prop := Claim7.holds Tryz.pinned (.plain (OpenSpec.ofChange fnSetupTimingSpec)) fnSetupTimingCard

/-- THE TIED CARD OF 'laws.FnSetupChecks'. -/
def fnSetupChecksCard : Claim7 := { stood := { row := fnSetupChecksRow, standIns := [], harness := (true, "c93ade1e7b034d1888e8edf8af8103eb98ee4af8022e27f22f79c821266f62b9"), looks := false }, kinds := [], alts := [], laidByText := true, laidKinds := [.data, .pinned], laidTests := true, laidLooks := .later }
def FnSetupChecksCardSaid : Prop := Claim7.holds Tryz.pinned (.plain (OpenSpec.ofChange fnSetupChecksSpec)) fnSetupChecksCard

/-- THE SECOND FORM's CARD OF 'laws.FnSetupTiming'. -/
def fnSetupTimingUptoCard : Claim7 := { stood := { row := fnSetupTimingUptoRow, standIns := [], harness := (true, "c93ade1e7b034d1888e8edf8af8103eb98ee4af8022e27f22f79c821266f62b9"), looks := false }, kinds := [], alts := [], laidByText := true, laidKinds := [.data, .pinned], laidTests := true, laidLooks := .later }
def FnSetupTimingUptoCardSaid : Prop := Claim7.holds Tryz.pinned (.plain (OpenSpec.upto fnSetupTimingSpec)) fnSetupTimingUptoCard

/-- THE SECOND FORM's CARD OF 'laws.FnSetupChecks'. -/
def fnSetupChecksUptoCard : Claim7 := { stood := { row := fnSetupChecksUptoRow, standIns := [], harness := (true, "c93ade1e7b034d1888e8edf8af8103eb98ee4af8022e27f22f79c821266f62b9"), looks := false }, kinds := [], alts := [], laidByText := true, laidKinds := [.data, .pinned], laidTests := true, laidLooks := .later }
def FnSetupChecksUptoCardSaid : Prop := Claim7.holds Tryz.pinned (.plain (OpenSpec.upto fnSetupChecksSpec)) fnSetupChecksUptoCard
end Rows
end Go.Proofs.YtjkccpcebpeadaaGreatDoor
