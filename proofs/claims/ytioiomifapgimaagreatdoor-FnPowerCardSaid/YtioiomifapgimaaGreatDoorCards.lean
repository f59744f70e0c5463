/-
  DERIVED. GIVEN WITH THE SEED: THE CARDS: each row of YtioiomifapgimaaGreatDoorRows.lean that lists a variable, with what it lists TIED to the program's text (the seventh form; the later family's looks); each row that meets fmt, with fmt's text TOLD by the authors' own Lean function (tested against real Go, not proved from fmt's source: count such statements apart). THE CARD IS WHAT COUNTS. Prove the row's statement (the work); the ties are given (YtioiomifapgimaaGreatDoorTie.lean); close each card by the builder's one call (the guide's Derived/Test/ToyasCard.lean, 'card_holds'). Laid BY PROGRAM, IN A SANDBOX (cutbox-door.mjs). By AI agents, Wed Nov 11 2026. No macro, syntax, notation, axiom, sorry.
-/
import Derived.Test.YtioiomifapgimaaGreatDoorRows
import GoSem.ClaimSeven
namespace Go.Proofs.YtioiomifapgimaaGreatDoor
namespace Rows

/-- THE TIED CARD OF 'laws.FnPower'. -/
def fnPowerCard : Claim7 := { stood := { row := fnPowerRow, standIns := [], harness := (true, "be00858daa01d73d8da2fde1fa54c84a104ad4fb032cdfac5885cfeb8c7404f2"), looks := false }, kinds := [], alts := [], laidByText := true, laidKinds := [.data, .pinned], laidTests := true, laidLooks := .later }
def FnPowerCardSaid : Prop := Claim7.holds Tryz.pinned (.plain (OpenSpec.ofChange fnPowerSpec)) fnPowerCard

/-- THE TIED CARD OF 'laws.FnExactHottestNets'. -/
def fnExactHottestNetsCard : Claim7 := { stood := { row := fnExactHottestNetsRow, standIns := [], harness := (true, "be00858daa01d73d8da2fde1fa54c84a104ad4fb032cdfac5885cfeb8c7404f2"), looks := false }, kinds := [], alts := [], laidByText := true, laidKinds := [.data, .pinned], laidTests := true, laidLooks := .later }
def FnExactHottestNetsCardSaid : Prop := Claim7.holds Tryz.pinned (.plain (OpenSpec.ofChange fnExactHottestNetsSpec)) fnExactHottestNetsCard

/-- THE SECOND FORM's CARD OF 'laws.FnPower'. -/
def fnPowerUptoCard : Claim7 := { stood := { row := fnPowerUptoRow, standIns := [], harness := (true, "be00858daa01d73d8da2fde1fa54c84a104ad4fb032cdfac5885cfeb8c7404f2"), looks := false }, kinds := [], alts := [], laidByText := true, laidKinds := [.data, .pinned], laidTests := true, laidLooks := .later }
def FnPowerUptoCardSaid : Prop := Claim7.holds Tryz.pinned (.plain (OpenSpec.upto fnPowerSpec)) fnPowerUptoCard

/-- THE SECOND FORM's CARD OF 'laws.FnExactHottestNets'. -/
def fnExactHottestNetsUptoCard : Claim7 := { stood := { row := fnExactHottestNetsUptoRow, standIns := [], harness := (true, "be00858daa01d73d8da2fde1fa54c84a104ad4fb032cdfac5885cfeb8c7404f2"), looks := false }, kinds := [], alts := [], laidByText := true, laidKinds := [.data, .pinned], laidTests := true, laidLooks := .later }
def FnExactHottestNetsUptoCardSaid : Prop := Claim7.holds Tryz.pinned (.plain (OpenSpec.upto fnExactHottestNetsSpec)) fnExactHottestNetsUptoCard
end Rows
end Go.Proofs.YtioiomifapgimaaGreatDoor
