/-
  DERIVED. GIVEN WITH THE SEED: THE CARDS: each row of YtpkjjgdhmafonaaGreatDoorRows.lean that lists a variable, with what it lists TIED to the program's text (the seventh form; the later family's looks); each row that meets fmt, with fmt's text TOLD by the authors' own Lean function (tested against real Go, not proved from fmt's source: count such statements apart). THE CARD IS WHAT COUNTS. Prove the row's statement (the work); the ties are given (YtpkjjgdhmafonaaGreatDoorTie.lean); close each card by the builder's one call (the guide's Derived/Test/ToyasCard.lean, 'card_holds'). Laid BY PROGRAM, IN A SANDBOX (cutbox-door.mjs). By AI agents, Wed Nov 11 2026. No macro, syntax, notation, axiom, sorry.
-/
import Derived.Test.YtpkjjgdhmafonaaGreatDoorRows
import GoSem.ClaimSeven
namespace Go.Proofs.YtpkjjgdhmafonaaGreatDoor
namespace Rows

/-- THE TIED CARD OF 'laws.FnExactInverseEdit'. -/
def fnExactInverseEditCard : Claim7 := { stood := { row := fnExactInverseEditRow, standIns := [], harness := (true, "d1a76503a1c1abd5dfd19c3e534560a36cc061a969d3aebc22591eefc4494d4a"), looks := false }, kinds := [], alts := [], laidByText := true, laidKinds := [.data, .pinned], laidTests := true, laidLooks := .later }
def FnExactInverseEditCardSaid : Prop := Claim7.holds Tryz.pinned (.plain (OpenSpec.ofChange fnExactInverseEditSpec)) fnExactInverseEditCard

/-- THE TIED CARD OF 'laws.FnExactApplyEdit'. -/
def fnExactApplyEditCard : Claim7 := { stood := { row := fnExactApplyEditRow, standIns := [], harness := (true, "d1a76503a1c1abd5dfd19c3e534560a36cc061a969d3aebc22591eefc4494d4a"), looks := false }, kinds := [], alts := [], laidByText := true, laidKinds := [.data, .pinned], laidTests := true, laidLooks := .later }
def FnExactApplyEditCardSaid : Prop := Claim7.holds Tryz.pinned (.plain (OpenSpec.ofChange fnExactApplyEditSpec)) fnExactApplyEditCard

/-- THE SECOND FORM's CARD OF 'laws.FnExactInverseEdit'. -/
def fnExactInverseEditUptoCard : Claim7 := { stood := { row := fnExactInverseEditUptoRow, standIns := [], harness := (true, "d1a76503a1c1abd5dfd19c3e534560a36cc061a969d3aebc22591eefc4494d4a"), looks := false }, kinds := [], alts := [], laidByText := true, laidKinds := [.data, .pinned], laidTests := true, laidLooks := .later }
def FnExactInverseEditUptoCardSaid : Prop := Claim7.holds Tryz.pinned (.plain (OpenSpec.upto fnExactInverseEditSpec)) fnExactInverseEditUptoCard

/-- THE SECOND FORM's CARD OF 'laws.FnExactApplyEdit'. -/
def fnExactApplyEditUptoCard : Claim7 := { stood := { row := fnExactApplyEditUptoRow, standIns := [], harness := (true, "d1a76503a1c1abd5dfd19c3e534560a36cc061a969d3aebc22591eefc4494d4a"), looks := false }, kinds := [], alts := [], laidByText := true, laidKinds := [.data, .pinned], laidTests := true, laidLooks := .later }
def FnExactApplyEditUptoCardSaid : Prop := Claim7.holds Tryz.pinned (.plain (OpenSpec.upto fnExactApplyEditSpec)) fnExactApplyEditUptoCard
end Rows
end Go.Proofs.YtpkjjgdhmafonaaGreatDoor
