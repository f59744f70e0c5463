/-
  DERIVED. GIVEN WITH THE SEED: THE CARDS: each row of YtjfbeebdhmebpaaGreatDoorRows.lean that lists a variable, with what it lists TIED to the program's text (the seventh form; the later family's looks); each row that meets fmt, with fmt's text TOLD by the authors' own Lean function (tested against real Go, not proved from fmt's source: count such statements apart). THE CARD IS WHAT COUNTS. Prove the row's statement (the work); the ties are given (YtjfbeebdhmebpaaGreatDoorTie.lean); close each card by the builder's one call (the guide's Derived/Test/ToyasCard.lean, 'card_holds'). Laid BY PROGRAM, IN A SANDBOX (cutbox-door.mjs). By AI agents, Wed Nov 11 2026. No macro, syntax, notation, axiom, sorry.
-/
import Derived.Test.YtjfbeebdhmebpaaGreatDoorRows
import GoSem.ClaimSeven
namespace Go.Proofs.YtjfbeebdhmebpaaGreatDoor
namespace Rows

/-- THE TIED CARD OF 'laws.FnExactDensityBound'. -/
def fnExactDensityBoundCard : Claim7 := { stood := { row := fnExactDensityBoundRow, standIns := [], harness := (true, "e936ecd4eb921424699682bdc4ad493d693001564b496961d3342c90b7ffea43"), looks := false }, kinds := [], alts := [], laidByText := true, laidKinds := [.data, .pinned], laidTests := true, laidLooks := .later }
def FnExactDensityBoundCardSaid : Prop := Claim7.holds Tryz.pinned (.plain (OpenSpec.ofChange fnExactDensityBoundSpec)) fnExactDensityBoundCard

/-- THE TIED CARD OF 'laws.FnExactNetPower'. -/
def fnExactNetPowerCard : Claim7 := { stood := { row := fnExactNetPowerRow, standIns := [], harness := (true, "e936ecd4eb921424699682bdc4ad493d693001564b496961d3342c90b7ffea43"), looks := false }, kinds := [], alts := [], laidByText := true, laidKinds := [.data, .pinned], laidTests := true, laidLooks := .later }
def FnExactNetPowerCardSaid : Prop := Claim7.holds Tryz.pinned (.plain (OpenSpec.ofChange fnExactNetPowerSpec)) fnExactNetPowerCard

/-- THE TIED CARD OF 'laws.FnExactInstancePower'. -/
def fnExactInstancePowerCard : Claim7 := { stood := { row := fnExactInstancePowerRow, standIns := [], harness := (true, "e936ecd4eb921424699682bdc4ad493d693001564b496961d3342c90b7ffea43"), looks := false }, kinds := [], alts := [], laidByText := true, laidKinds := [.data, .pinned], laidTests := true, laidLooks := .later }
def FnExactInstancePowerCardSaid : Prop := Claim7.holds Tryz.pinned (.plain (OpenSpec.ofChange fnExactInstancePowerSpec)) fnExactInstancePowerCard

/-- THE TIED CARD OF 'laws.FnExactPowerBelow'. -/
def fnExactPowerBelowCard : Claim7 := { stood := { row := fnExactPowerBelowRow, standIns := [], harness := (true, "e936ecd4eb921424699682bdc4ad493d693001564b496961d3342c90b7ffea43"), looks := false }, kinds := [], alts := [], laidByText := true, laidKinds := [.data, .pinned], laidTests := true, laidLooks := .later }
def FnExactPowerBelowCardSaid : Prop := Claim7.holds Tryz.pinned (.plain (OpenSpec.ofChange fnExactPowerBelowSpec)) fnExactPowerBelowCard

/-- THE TIED CARD OF 'laws.FnExactTotalPower'. -/
def fnExactTotalPowerCard : Claim7 := { stood := { row := fnExactTotalPowerRow, standIns := [], harness := (true, "e936ecd4eb921424699682bdc4ad493d693001564b496961d3342c90b7ffea43"), looks := false }, kinds := [], alts := [], laidByText := true, laidKinds := [.data, .pinned], laidTests := true, laidLooks := .later }
def FnExactTotalPowerCardSaid : Prop := Claim7.holds Tryz.pinned (.plain (OpenSpec.ofChange fnExactTotalPowerSpec)) fnExactTotalPowerCard

/-- THE SECOND FORM's CARD OF 'laws.FnExactDensityBound'. -/
def fnExactDensityBoundUptoCard : Claim7 := { stood := { row := fnExactDensityBoundUptoRow, standIns := [], harness := (true, "e936ecd4eb921424699682bdc4ad493d693001564b496961d3342c90b7ffea43"), looks := false }, kinds := [], alts := [], laidByText := true, laidKinds := [.data, .pinned], laidTests := true, laidLooks := .later }
def FnExactDensityBoundUptoCardSaid : Prop := Claim7.holds Tryz.pinned (.plain (OpenSpec.upto fnExactDensityBoundSpec)) fnExactDensityBoundUptoCard

/-- THE SECOND FORM's CARD OF 'laws.FnExactNetPower'. -/
def fnExactNetPowerUptoCard : Claim7 := { stood := { row := fnExactNetPowerUptoRow, standIns := [], harness := (true, "e936ecd4eb921424699682bdc4ad493d693001564b496961d3342c90b7ffea43"), looks := false }, kinds := [], alts := [], laidByText := true, laidKinds := [.data, .pinned], laidTests := true, laidLooks := .later }
def FnExactNetPowerUptoCardSaid : Prop := Claim7.holds Tryz.pinned (.plain (OpenSpec.upto fnExactNetPowerSpec)) fnExactNetPowerUptoCard

/-- THE SECOND FORM's CARD OF 'laws.FnExactInstancePower'. -/
def fnExactInstancePowerUptoCard : Claim7 := { stood := { row := fnExactInstancePowerUptoRow, standIns := [], harness := (true, "e936ecd4eb921424699682bdc4ad493d693001564b496961d3342c90b7ffea43"), looks := false }, kinds := [], alts := [], laidByText := true, laidKinds := [.data, .pinned], laidTests := true, laidLooks := .later }
def FnExactInstancePowerUptoCardSaid : Prop := Claim7.holds Tryz.pinned (.plain (OpenSpec.upto fnExactInstancePowerSpec)) fnExactInstancePowerUptoCard

/-- THE SECOND FORM's CARD OF 'laws.FnExactPowerBelow'. -/
def fnExactPowerBelowUptoCard : Claim7 := { stood := { row := fnExactPowerBelowUptoRow, standIns := [], harness := (true, "e936ecd4eb921424699682bdc4ad493d693001564b496961d3342c90b7ffea43"), looks := false }, kinds := [], alts := [], laidByText := true, laidKinds := [.data, .pinned], laidTests := true, laidLooks := .later }
def FnExactPowerBelowUptoCardSaid : Prop := Claim7.holds Tryz.pinned (.plain (OpenSpec.upto fnExactPowerBelowSpec)) fnExactPowerBelowUptoCard

/-- THE SECOND FORM's CARD OF 'laws.FnExactTotalPower'. -/
def fnExactTotalPowerUptoCard : Claim7 := { stood := { row := fnExactTotalPowerUptoRow, standIns := [], harness := (true, "e936ecd4eb921424699682bdc4ad493d693001564b496961d3342c90b7ffea43"), looks := false }, kinds := [], alts := [], laidByText := true, laidKinds := [.data, .pinned], laidTests := true, laidLooks := .later }
def FnExactTotalPowerUptoCardSaid : Prop := Claim7.holds Tryz.pinned (.plain (OpenSpec.upto fnExactTotalPowerSpec)) fnExactTotalPowerUptoCard
end Rows
end Go.Proofs.YtjfbeebdhmebpaaGreatDoor
