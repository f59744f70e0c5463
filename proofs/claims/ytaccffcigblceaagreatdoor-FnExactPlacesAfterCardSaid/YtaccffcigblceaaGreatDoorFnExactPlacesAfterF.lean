/-
  FnExactPlacesAfter: what the row says of the program, fact by fact.
-/
import Derived.Test.YtaccffcigblceaaGreatDoorRows
import Derived.Test.YtaccffcigblceaaGreatDoorChecked
import Derived.KernelRfl
import Derived.JoinedOf
namespace Go.Proofs.YtaccffcigblceaaGreatDoor
open Go
set_option maxRecDepth 100000
theorem fnExactPlacesAfter_c0 : (Rows.fnExactPlacesAfterRow.wf (OpenSpec.ofChange Rows.fnExactPlacesAfterSpec)) = true := by kernel_rfl
theorem fnExactPlacesAfter_c1 : (laidOutB Tryz.prog) = true := by kernel_rfl
theorem fnExactPlacesAfter_c2 : (mapsRowed Tryz.prog) = true := by kernel_rfl
theorem fnExactPlacesAfter_c3 : (Tryz.f3.params.all (Tryz.prog.readableRec ·)) = true := by kernel_rfl
theorem fnExactPlacesAfter_c4 : (namedTie Tryz.prog Rows.fnExactPlacesAfterRow.named Rows.fnExactPlacesAfterSpec.vars) = true := by kernel_rfl
theorem fnExactPlacesAfter_c5 : ((Rows.fnExactPlacesAfterRow.stops == [])) = true := by kernel_rfl
theorem fnExactPlacesAfter_c6 : ((Tryz.prog.stops == [])) = true := by kernel_rfl
theorem fnExactPlacesAfter_c7 : ((Rows.fnExactPlacesAfterRow.knobs == [])) = true := by kernel_rfl
theorem fnExactPlacesAfter_c8 : ((Tryz.prog.stopKnobs == [])) = true := by kernel_rfl
theorem fnExactPlacesAfter_c9 : ((Rows.fnExactPlacesAfterRow.inPlace == Tryz.prog.inPlace 3)) = true := by kernel_rfl
theorem fnExactPlacesAfter_c10 : ((Rows.fnExactPlacesAfterRow.unfollowed == Tryz.prog.unfollowed 3)) = true := by kernel_rfl
theorem fnExactPlacesAfter_c11 : ((Rows.fnExactPlacesAfterRow.recurses == Tryz.prog.recurses 3)) = true := by kernel_rfl
theorem fnExactPlacesAfter_c12 : ((Rows.fnExactPlacesAfterRow.named == Tryz.prog.varsNamed 3)) = true := by kernel_rfl
theorem fnExactPlacesAfter_c13 : ((Rows.fnExactPlacesAfterRow.maps == (Tryz.f3.params.toList ++ Rows.fnExactPlacesAfterSpec.plain.varTypes Tryz.prog).any (Tryz.prog.mapsRec ·))) = true := by kernel_rfl
theorem fnExactPlacesAfter_c14 : ((Rows.fnExactPlacesAfterRow.ifaces == (Tryz.f3.params.toList ++ Rows.fnExactPlacesAfterSpec.plain.varTypes Tryz.prog).any (Tryz.prog.ifacesRec ·))) = true := by kernel_rfl
theorem fnExactPlacesAfter_c15 : ((Rows.fnExactPlacesAfterRow.mapsOut == Tryz.prog.mapsAmong Tryz.f3.resultTypes.toList)) = true := by kernel_rfl
theorem fnExactPlacesAfter_c16 : ((Rows.fnExactPlacesAfterRow.loops == (Tryz.f3.params.toList ++ Rows.fnExactPlacesAfterSpec.plain.varTypes Tryz.prog).any (Tryz.prog.loopsFrom ·))) = true := by kernel_rfl
theorem fnExactPlacesAfter_c17 : ((Rows.fnExactPlacesAfterRow.wideKeys == (Tryz.f3.params.toList ++ Rows.fnExactPlacesAfterSpec.plain.varTypes Tryz.prog ++ Tryz.f3.resultTypes.toList).any (Tryz.prog.wideKeysFrom ·))) = true := by kernel_rfl
theorem fnExactPlacesAfter_c18 : (Rows.fnExactPlacesAfterSpec.vars.all (Tryz.prog.varReadable ·)) = true := by kernel_rfl
theorem fnExactPlacesAfter_c19 : (Tryz.f3.resultTypes.all (fun t => Tryz.prog.readableRec t && decide (t < Tryz.prog.types.size))) = true := by kernel_rfl
theorem fnExactPlacesAfter_c20 : ((Rows.fnExactPlacesAfterRow.ifacesOut == Tryz.f3.resultTypes.toList.any (Tryz.prog.ifacesRec ·))) = true := by kernel_rfl
theorem fnExactPlacesAfter_c21 : ((Rows.fnExactPlacesAfterRow.loopsOut == Tryz.f3.resultTypes.toList.any (Tryz.prog.loopsFrom ·))) = true := by kernel_rfl
theorem fnExactPlacesAfter_c22 : ((Rows.fnExactPlacesAfterRow.plainKeys == Tryz.prog.plainKeys)) = true := by kernel_rfl
theorem fnExactPlacesAfter_c23 : (Rows.fnExactPlacesAfterRow.shortTexts.isNone) = true := by kernel_rfl
theorem fnExactPlacesAfter_c24 : (Tryz.prog.stopsHeard) = true := by kernel_rfl
theorem fnExactPlacesAfter_c25 : (Tryz.prog.mayEnter) = true := by kernel_rfl
theorem fnExactPlacesAfter_c26 : ((Rows.fnExactPlacesAfterRow.lifted == Tryz.prog.liftsFinal)) = true := by kernel_rfl
theorem fnExactPlacesAfter_c27 : ((Tryz.prog.make == some Rows.fnExactPlacesAfterRow.make)) = true := by kernel_rfl
theorem fnExactPlacesAfter_c28 : ((Rows.fnExactPlacesAfterRow.kinds == (if Rows.fnExactPlacesAfterRow.domain.isEmpty then [] else Tryz.f3.params.toList.map fun t => match Tryz.prog.underlying t with | some (.int k) => some k | _ => none))) = true := by kernel_rfl
theorem fnExactPlacesAfter_c29 : ((Rows.fnExactPlacesAfterRow.pinned == Rows.fnExactPlacesAfterRow.pinnedBy)) = true := by kernel_rfl
theorem fnExactPlacesAfter_c30 : ((Rows.fnExactPlacesAfterRow.veiled == (Tryz.f3.params.toList ++ Rows.fnExactPlacesAfterSpec.plain.varTypes Tryz.prog ++ Tryz.f3.resultTypes.toList).any (Tryz.prog.veiledRec ·))) = true := by kernel_rfl
theorem fnExactPlacesAfter_c31 : (Rows.fnExactPlacesAfterRow.veiledFits Tryz.prog Tryz.f3.params.toList (Tryz.f3.params.toList ++ Rows.fnExactPlacesAfterSpec.plain.varTypes Tryz.prog ++ Tryz.f3.resultTypes.toList)) = true := by kernel_rfl
theorem fnExactPlacesAfter_and {a b : Bool} (h1 : a = true) (h2 : b = true) : (a && b) = true := by rw [h1, h2]; rfl
theorem fnExactPlacesAfter_closed : joinedFacts Tryz.prog 3 Tryz.f3 Rows.fnExactPlacesAfterSpec Rows.fnExactPlacesAfterRow = true := by
  unfold joinedFacts
  exact fnExactPlacesAfter_and (fnExactPlacesAfter_and (fnExactPlacesAfter_and (fnExactPlacesAfter_and (fnExactPlacesAfter_and (fnExactPlacesAfter_and (fnExactPlacesAfter_and (fnExactPlacesAfter_and (fnExactPlacesAfter_and (fnExactPlacesAfter_and (fnExactPlacesAfter_and (fnExactPlacesAfter_and (fnExactPlacesAfter_and (fnExactPlacesAfter_and (fnExactPlacesAfter_and (fnExactPlacesAfter_and (fnExactPlacesAfter_and (fnExactPlacesAfter_and (fnExactPlacesAfter_and (fnExactPlacesAfter_and (fnExactPlacesAfter_and (fnExactPlacesAfter_and (fnExactPlacesAfter_and (fnExactPlacesAfter_and (fnExactPlacesAfter_and (fnExactPlacesAfter_and (fnExactPlacesAfter_and (fnExactPlacesAfter_and (fnExactPlacesAfter_and (fnExactPlacesAfter_and (fnExactPlacesAfter_and (fnExactPlacesAfter_c0) fnExactPlacesAfter_c1) fnExactPlacesAfter_c2) fnExactPlacesAfter_c3) fnExactPlacesAfter_c4) fnExactPlacesAfter_c5) fnExactPlacesAfter_c6) fnExactPlacesAfter_c7) fnExactPlacesAfter_c8) fnExactPlacesAfter_c9) fnExactPlacesAfter_c10) fnExactPlacesAfter_c11) fnExactPlacesAfter_c12) fnExactPlacesAfter_c13) fnExactPlacesAfter_c14) fnExactPlacesAfter_c15) fnExactPlacesAfter_c16) fnExactPlacesAfter_c17) fnExactPlacesAfter_c18) fnExactPlacesAfter_c19) fnExactPlacesAfter_c20) fnExactPlacesAfter_c21) fnExactPlacesAfter_c22) fnExactPlacesAfter_c23) fnExactPlacesAfter_c24) fnExactPlacesAfter_c25) fnExactPlacesAfter_c26) fnExactPlacesAfter_c27) fnExactPlacesAfter_c28) fnExactPlacesAfter_c29) fnExactPlacesAfter_c30) fnExactPlacesAfter_c31
end Go.Proofs.YtaccffcigblceaaGreatDoor
