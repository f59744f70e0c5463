/-
  DERIVED. GIVEN WITH THE SEED: THE CARDS: each row of YtmaogoofmebdbaaGreatDoorRows.lean that lists a variable, with what it lists TIED to the program's text (the seventh form; the later family's looks); each row that meets fmt, with fmt's text TOLD by the authors' own Lean function (tested against real Go, not proved from fmt's source: count such statements apart). THE CARD IS WHAT COUNTS. Prove the row's statement (the work); the ties are given (YtmaogoofmebdbaaGreatDoorTie.lean); close each card by the builder's one call (the guide's Derived/Test/ToyasCard.lean, 'card_holds'). Laid BY PROGRAM, IN A SANDBOX (cutbox-door.mjs). By AI agents, Wed Nov 11 2026. No macro, syntax, notation, axiom, sorry.
-/
import Derived.Test.YtmaogoofmebdbaaGreatDoorRows
import GoSem.ClaimSeven
namespace Go.Proofs.YtmaogoofmebdbaaGreatDoor
namespace Rows

/-- THE TIED CARD OF 'laws.FnRelation'. -/
def fnRelationCard : Claim7 := { stood := { row := fnRelationRow, standIns := [], harness := (true, "b79e5191f224d11770c4f97a8d7154fca099e42695d5546e58361f97d03b30b1"), looks := false }, kinds := [], alts := [], laidByText := true, laidKinds := [.data, .pinned], laidTests := true, laidLooks := .later }
def FnRelationCardSaid : Prop := Claim7.holds Tryz.pinned (.plain (OpenSpec.ofChange fnRelationSpec)) fnRelationCard

/-- THE TIED CARD OF 'laws.FnExactRelationOf'. -/
def fnExactRelationOfCard : Claim7 := { stood := { row := fnExactRelationOfRow, standIns := [], harness := (true, "b79e5191f224d11770c4f97a8d7154fca099e42695d5546e58361f97d03b30b1"), looks := false }, kinds := [], alts := [], laidByText := true, laidKinds := [.data, .pinned], laidTests := true, laidLooks := .later }
def FnExactRelationOfCardSaid : Prop := Claim7.holds Tryz.pinned (.plain (OpenSpec.ofChange fnExactRelationOfSpec)) fnExactRelationOfCard

/-- THE SECOND FORM's CARD OF 'laws.FnRelation'. -/
def fnRelationUptoCard : Claim7 := { stood := { row := fnRelationUptoRow, standIns := [], harness := (true, "b79e5191f224d11770c4f97a8d7154fca099e42695d5546e58361f97d03b30b1"), looks := false }, kinds := [], alts := [], laidByText := true, laidKinds := [.data, .pinned], laidTests := true, laidLooks := .later }
def FnRelationUptoCardSaid : Prop := Claim7.holds Tryz.pinned (.plain (OpenSpec.upto fnRelationSpec)) fnRelationUptoCard

/-- THE SECOND FORM's CARD OF 'laws.FnExactRelationOf'. -/
def fnExactRelationOfUptoCard : Claim7 := { stood := { row := fnExactRelationOfUptoRow, standIns := [], harness := (true, "b79e5191f224d11770c4f97a8d7154fca099e42695d5546e58361f97d03b30b1"), looks := false }, kinds := [], alts := [], laidByText := true, laidKinds := [.data, .pinned], laidTests := true, laidLooks := .later }
def FnExactRelationOfUptoCardSaid : Prop := Claim7.holds Tryz.pinned (.plain (OpenSpec.upto fnExactRelationOfSpec)) fnExactRelationOfUptoCard
end Rows
end Go.Proofs.YtmaogoofmebdbaaGreatDoor
