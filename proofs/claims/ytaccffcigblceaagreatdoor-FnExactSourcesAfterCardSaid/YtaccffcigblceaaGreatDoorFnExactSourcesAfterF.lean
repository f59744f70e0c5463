/-
  FnExactSourcesAfter: what the row says of the program, fact by fact.
-/
import Derived.Test.YtaccffcigblceaaGreatDoorRows
import Derived.Test.YtaccffcigblceaaGreatDoorChecked
import Derived.KernelRfl
import Derived.JoinedOf
namespace Go.Proofs.YtaccffcigblceaaGreatDoor
open Go
set_option maxRecDepth 100000
theorem fnExactSourcesAfter_c0 : (Rows.fnExactSourcesAfterRow.wf (OpenSpec.ofChange Rows.fnExactSourcesAfterSpec)) = true := by kernel_rfl
theorem fnExactSourcesAfter_c1 : (laidOutB Tryz.prog) = true := by kernel_rfl
theorem fnExactSourcesAfter_c2 : (mapsRowed Tryz.prog) = true := by kernel_rfl
theorem fnExactSourcesAfter_c3 : (Tryz.f4.params.all (Tryz.prog.readableRec ·)) = true := by kernel_rfl
theorem fnExactSourcesAfter_c4 : (namedTie Tryz.prog Rows.fnExactSourcesAfterRow.named Rows.fnExactSourcesAfterSpec.vars) = true := by kernel_rfl
theorem fnExactSourcesAfter_c5 : ((Rows.fnExactSourcesAfterRow.stops == [])) = true := by kernel_rfl
theorem fnExactSourcesAfter_c6 : ((Tryz.prog.stops == [])) = true := by kernel_rfl
theorem fnExactSourcesAfter_c7 : ((Rows.fnExactSourcesAfterRow.knobs == [])) = true := by kernel_rfl
theorem fnExactSourcesAfter_c8 : ((Tryz.prog.stopKnobs == [])) = true := by kernel_rfl
theorem fnExactSourcesAfter_c9 : ((Rows.fnExactSourcesAfterRow.inPlace == Tryz.prog.inPlace 4)) = true := by kernel_rfl
theorem fnExactSourcesAfter_c10 : ((Rows.fnExactSourcesAfterRow.unfollowed == Tryz.prog.unfollowed 4)) = true := by kernel_rfl
theorem fnExactSourcesAfter_c11 : ((Rows.fnExactSourcesAfterRow.recurses == Tryz.prog.recurses 4)) = true := by kernel_rfl
theorem fnExactSourcesAfter_c12 : ((Rows.fnExactSourcesAfterRow.named == Tryz.prog.varsNamed 4)) = true := by kernel_rfl
theorem fnExactSourcesAfter_c13 : ((Rows.fnExactSourcesAfterRow.maps == (Tryz.f4.params.toList ++ Rows.fnExactSourcesAfterSpec.plain.varTypes Tryz.prog).any (Tryz.prog.mapsRec ·))) = true := by kernel_rfl
theorem fnExactSourcesAfter_c14 : ((Rows.fnExactSourcesAfterRow.ifaces == (Tryz.f4.params.toList ++ Rows.fnExactSourcesAfterSpec.plain.varTypes Tryz.prog).any (Tryz.prog.ifacesRec ·))) = true := by kernel_rfl
theorem fnExactSourcesAfter_c15 : ((Rows.fnExactSourcesAfterRow.mapsOut == Tryz.prog.mapsAmong Tryz.f4.resultTypes.toList)) = true := by kernel_rfl
theorem fnExactSourcesAfter_c16 : ((Rows.fnExactSourcesAfterRow.loops == (Tryz.f4.params.toList ++ Rows.fnExactSourcesAfterSpec.plain.varTypes Tryz.prog).any (Tryz.prog.loopsFrom ·))) = true := by kernel_rfl
theorem fnExactSourcesAfter_c17 : ((Rows.fnExactSourcesAfterRow.wideKeys == (Tryz.f4.params.toList ++ Rows.fnExactSourcesAfterSpec.plain.varTypes Tryz.prog ++ Tryz.f4.resultTypes.toList).any (Tryz.prog.wideKeysFrom ·))) = true := by kernel_rfl
theorem fnExactSourcesAfter_c18 : (Rows.fnExactSourcesAfterSpec.vars.all (Tryz.prog.varReadable ·)) = true := by kernel_rfl
theorem fnExactSourcesAfter_c19 : (Tryz.f4.resultTypes.all (fun t => Tryz.prog.readableRec t && decide (t < Tryz.prog.types.size))) = true := by kernel_rfl
theorem fnExactSourcesAfter_c20 : ((Rows.fnExactSourcesAfterRow.ifacesOut == Tryz.f4.resultTypes.toList.any (Tryz.prog.ifacesRec ·))) = true := by kernel_rfl
theorem fnExactSourcesAfter_c21 : ((Rows.fnExactSourcesAfterRow.loopsOut == Tryz.f4.resultTypes.toList.any (Tryz.prog.loopsFrom ·))) = true := by kernel_rfl
theorem fnExactSourcesAfter_c22 : ((Rows.fnExactSourcesAfterRow.plainKeys == Tryz.prog.plainKeys)) = true := by kernel_rfl
theorem fnExactSourcesAfter_c23 : (Rows.fnExactSourcesAfterRow.shortTexts.isNone) = true := by kernel_rfl
theorem fnExactSourcesAfter_c24 : (Tryz.prog.stopsHeard) = true := by kernel_rfl
theorem fnExactSourcesAfter_c25 : (Tryz.prog.mayEnter) = true := by kernel_rfl
theorem fnExactSourcesAfter_c26 : ((Rows.fnExactSourcesAfterRow.lifted == Tryz.prog.liftsFinal)) = true := by kernel_rfl
theorem fnExactSourcesAfter_c27 : ((Tryz.prog.make == some Rows.fnExactSourcesAfterRow.make)) = true := by kernel_rfl
theorem fnExactSourcesAfter_c28 : ((Rows.fnExactSourcesAfterRow.kinds == (if Rows.fnExactSourcesAfterRow.domain.isEmpty then [] else Tryz.f4.params.toList.map fun t => match Tryz.prog.underlying t with | some (.int k) => some k | _ => none))) = true := by kernel_rfl
theorem fnExactSourcesAfter_c29 : ((Rows.fnExactSourcesAfterRow.pinned == Rows.fnExactSourcesAfterRow.pinnedBy)) = true := by kernel_rfl
theorem fnExactSourcesAfter_c30 : ((Rows.fnExactSourcesAfterRow.veiled == (Tryz.f4.params.toList ++ Rows.fnExactSourcesAfterSpec.plain.varTypes Tryz.prog ++ Tryz.f4.resultTypes.toList).any (Tryz.prog.veiledRec ·))) = true := by kernel_rfl
theorem fnExactSourcesAfter_c31 : (Rows.fnExactSourcesAfterRow.veiledFits Tryz.prog Tryz.f4.params.toList (Tryz.f4.params.toList ++ Rows.fnExactSourcesAfterSpec.plain.varTypes Tryz.prog ++ Tryz.f4.resultTypes.toList)) = true := by kernel_rfl
theorem fnExactSourcesAfter_and {a b : Bool} (h1 : a = true) (h2 : b = true) : (a && b) = true := by rw [h1, h2]; rfl
theorem fnExactSourcesAfter_closed : joinedFacts Tryz.prog 4 Tryz.f4 Rows.fnExactSourcesAfterSpec Rows.fnExactSourcesAfterRow = true := by
  unfold joinedFacts
  exact fnExactSourcesAfter_and (fnExactSourcesAfter_and (fnExactSourcesAfter_and (fnExactSourcesAfter_and (fnExactSourcesAfter_and (fnExactSourcesAfter_and (fnExactSourcesAfter_and (fnExactSourcesAfter_and (fnExactSourcesAfter_and (fnExactSourcesAfter_and (fnExactSourcesAfter_and (fnExactSourcesAfter_and (fnExactSourcesAfter_and (fnExactSourcesAfter_and (fnExactSourcesAfter_and (fnExactSourcesAfter_and (fnExactSourcesAfter_and (fnExactSourcesAfter_and (fnExactSourcesAfter_and (fnExactSourcesAfter_and (fnExactSourcesAfter_and (fnExactSourcesAfter_and (fnExactSourcesAfter_and (fnExactSourcesAfter_and (fnExactSourcesAfter_and (fnExactSourcesAfter_and (fnExactSourcesAfter_and (fnExactSourcesAfter_and (fnExactSourcesAfter_and (fnExactSourcesAfter_and (fnExactSourcesAfter_and (fnExactSourcesAfter_c0) fnExactSourcesAfter_c1) fnExactSourcesAfter_c2) fnExactSourcesAfter_c3) fnExactSourcesAfter_c4) fnExactSourcesAfter_c5) fnExactSourcesAfter_c6) fnExactSourcesAfter_c7) fnExactSourcesAfter_c8) fnExactSourcesAfter_c9) fnExactSourcesAfter_c10) fnExactSourcesAfter_c11) fnExactSourcesAfter_c12) fnExactSourcesAfter_c13) fnExactSourcesAfter_c14) fnExactSourcesAfter_c15) fnExactSourcesAfter_c16) fnExactSourcesAfter_c17) fnExactSourcesAfter_c18) fnExactSourcesAfter_c19) fnExactSourcesAfter_c20) fnExactSourcesAfter_c21) fnExactSourcesAfter_c22) fnExactSourcesAfter_c23) fnExactSourcesAfter_c24) fnExactSourcesAfter_c25) fnExactSourcesAfter_c26) fnExactSourcesAfter_c27) fnExactSourcesAfter_c28) fnExactSourcesAfter_c29) fnExactSourcesAfter_c30) fnExactSourcesAfter_c31
end Go.Proofs.YtaccffcigblceaaGreatDoor
