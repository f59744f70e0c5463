/-
  FnExactSetupTargets: what the row says of the program, fact by fact.
-/
import Derived.Test.YtaccffcigblceaaGreatDoorRows
import Derived.Test.YtaccffcigblceaaGreatDoorChecked
import Derived.KernelRfl
import Derived.JoinedOf
namespace Go.Proofs.YtaccffcigblceaaGreatDoor
open Go
set_option maxRecDepth 100000
theorem fnExactSetupTargets_c0 : (Rows.fnExactSetupTargetsRow.wf (OpenSpec.ofChange Rows.fnExactSetupTargetsSpec)) = true := by kernel_rfl
theorem fnExactSetupTargets_c1 : (laidOutB Tryz.prog) = true := by kernel_rfl
theorem fnExactSetupTargets_c2 : (mapsRowed Tryz.prog) = true := by kernel_rfl
theorem fnExactSetupTargets_c3 : (Tryz.f5.params.all (Tryz.prog.readableRec ·)) = true := by kernel_rfl
theorem fnExactSetupTargets_c4 : (namedTie Tryz.prog Rows.fnExactSetupTargetsRow.named Rows.fnExactSetupTargetsSpec.vars) = true := by kernel_rfl
theorem fnExactSetupTargets_c5 : ((Rows.fnExactSetupTargetsRow.stops == [])) = true := by kernel_rfl
theorem fnExactSetupTargets_c6 : ((Tryz.prog.stops == [])) = true := by kernel_rfl
theorem fnExactSetupTargets_c7 : ((Rows.fnExactSetupTargetsRow.knobs == [])) = true := by kernel_rfl
theorem fnExactSetupTargets_c8 : ((Tryz.prog.stopKnobs == [])) = true := by kernel_rfl
theorem fnExactSetupTargets_c9 : ((Rows.fnExactSetupTargetsRow.inPlace == Tryz.prog.inPlace 5)) = true := by kernel_rfl
theorem fnExactSetupTargets_c10 : ((Rows.fnExactSetupTargetsRow.unfollowed == Tryz.prog.unfollowed 5)) = true := by kernel_rfl
theorem fnExactSetupTargets_c11 : ((Rows.fnExactSetupTargetsRow.recurses == Tryz.prog.recurses 5)) = true := by kernel_rfl
theorem fnExactSetupTargets_c12 : ((Rows.fnExactSetupTargetsRow.named == Tryz.prog.varsNamed 5)) = true := by kernel_rfl
theorem fnExactSetupTargets_c13 : ((Rows.fnExactSetupTargetsRow.maps == (Tryz.f5.params.toList ++ Rows.fnExactSetupTargetsSpec.plain.varTypes Tryz.prog).any (Tryz.prog.mapsRec ·))) = true := by kernel_rfl
theorem fnExactSetupTargets_c14 : ((Rows.fnExactSetupTargetsRow.ifaces == (Tryz.f5.params.toList ++ Rows.fnExactSetupTargetsSpec.plain.varTypes Tryz.prog).any (Tryz.prog.ifacesRec ·))) = true := by kernel_rfl
theorem fnExactSetupTargets_c15 : ((Rows.fnExactSetupTargetsRow.mapsOut == Tryz.prog.mapsAmong Tryz.f5.resultTypes.toList)) = true := by kernel_rfl
theorem fnExactSetupTargets_c16 : ((Rows.fnExactSetupTargetsRow.loops == (Tryz.f5.params.toList ++ Rows.fnExactSetupTargetsSpec.plain.varTypes Tryz.prog).any (Tryz.prog.loopsFrom ·))) = true := by kernel_rfl
theorem fnExactSetupTargets_c17 : ((Rows.fnExactSetupTargetsRow.wideKeys == (Tryz.f5.params.toList ++ Rows.fnExactSetupTargetsSpec.plain.varTypes Tryz.prog ++ Tryz.f5.resultTypes.toList).any (Tryz.prog.wideKeysFrom ·))) = true := by kernel_rfl
theorem fnExactSetupTargets_c18 : (Rows.fnExactSetupTargetsSpec.vars.all (Tryz.prog.varReadable ·)) = true := by kernel_rfl
theorem fnExactSetupTargets_c19 : (Tryz.f5.resultTypes.all (fun t => Tryz.prog.readableRec t && decide (t < Tryz.prog.types.size))) = true := by kernel_rfl
theorem fnExactSetupTargets_c20 : ((Rows.fnExactSetupTargetsRow.ifacesOut == Tryz.f5.resultTypes.toList.any (Tryz.prog.ifacesRec ·))) = true := by kernel_rfl
theorem fnExactSetupTargets_c21 : ((Rows.fnExactSetupTargetsRow.loopsOut == Tryz.f5.resultTypes.toList.any (Tryz.prog.loopsFrom ·))) = true := by kernel_rfl
theorem fnExactSetupTargets_c22 : ((Rows.fnExactSetupTargetsRow.plainKeys == Tryz.prog.plainKeys)) = true := by kernel_rfl
theorem fnExactSetupTargets_c23 : (Rows.fnExactSetupTargetsRow.shortTexts.isNone) = true := by kernel_rfl
theorem fnExactSetupTargets_c24 : (Tryz.prog.stopsHeard) = true := by kernel_rfl
theorem fnExactSetupTargets_c25 : (Tryz.prog.mayEnter) = true := by kernel_rfl
theorem fnExactSetupTargets_c26 : ((Rows.fnExactSetupTargetsRow.lifted == Tryz.prog.liftsFinal)) = true := by kernel_rfl
theorem fnExactSetupTargets_c27 : ((Tryz.prog.make == some Rows.fnExactSetupTargetsRow.make)) = true := by kernel_rfl
theorem fnExactSetupTargets_c28 : ((Rows.fnExactSetupTargetsRow.kinds == (if Rows.fnExactSetupTargetsRow.domain.isEmpty then [] else Tryz.f5.params.toList.map fun t => match Tryz.prog.underlying t with | some (.int k) => some k | _ => none))) = true := by kernel_rfl
theorem fnExactSetupTargets_c29 : ((Rows.fnExactSetupTargetsRow.pinned == Rows.fnExactSetupTargetsRow.pinnedBy)) = true := by kernel_rfl
theorem fnExactSetupTargets_c30 : ((Rows.fnExactSetupTargetsRow.veiled == (Tryz.f5.params.toList ++ Rows.fnExactSetupTargetsSpec.plain.varTypes Tryz.prog ++ Tryz.f5.resultTypes.toList).any (Tryz.prog.veiledRec ·))) = true := by kernel_rfl
theorem fnExactSetupTargets_c31 : (Rows.fnExactSetupTargetsRow.veiledFits Tryz.prog Tryz.f5.params.toList (Tryz.f5.params.toList ++ Rows.fnExactSetupTargetsSpec.plain.varTypes Tryz.prog ++ Tryz.f5.resultTypes.toList)) = true := by kernel_rfl
theorem fnExactSetupTargets_and {a b : Bool} (h1 : a = true) (h2 : b = true) : (a && b) = true := by rw [h1, h2]; rfl
theorem fnExactSetupTargets_closed : joinedFacts Tryz.prog 5 Tryz.f5 Rows.fnExactSetupTargetsSpec Rows.fnExactSetupTargetsRow = true := by
  unfold joinedFacts
  exact fnExactSetupTargets_and (fnExactSetupTargets_and (fnExactSetupTargets_and (fnExactSetupTargets_and (fnExactSetupTargets_and (fnExactSetupTargets_and (fnExactSetupTargets_and (fnExactSetupTargets_and (fnExactSetupTargets_and (fnExactSetupTargets_and (fnExactSetupTargets_and (fnExactSetupTargets_and (fnExactSetupTargets_and (fnExactSetupTargets_and (fnExactSetupTargets_and (fnExactSetupTargets_and (fnExactSetupTargets_and (fnExactSetupTargets_and (fnExactSetupTargets_and (fnExactSetupTargets_and (fnExactSetupTargets_and (fnExactSetupTargets_and (fnExactSetupTargets_and (fnExactSetupTargets_and (fnExactSetupTargets_and (fnExactSetupTargets_and (fnExactSetupTargets_and (fnExactSetupTargets_and (fnExactSetupTargets_and (fnExactSetupTargets_and (fnExactSetupTargets_and (fnExactSetupTargets_c0) fnExactSetupTargets_c1) fnExactSetupTargets_c2) fnExactSetupTargets_c3) fnExactSetupTargets_c4) fnExactSetupTargets_c5) fnExactSetupTargets_c6) fnExactSetupTargets_c7) fnExactSetupTargets_c8) fnExactSetupTargets_c9) fnExactSetupTargets_c10) fnExactSetupTargets_c11) fnExactSetupTargets_c12) fnExactSetupTargets_c13) fnExactSetupTargets_c14) fnExactSetupTargets_c15) fnExactSetupTargets_c16) fnExactSetupTargets_c17) fnExactSetupTargets_c18) fnExactSetupTargets_c19) fnExactSetupTargets_c20) fnExactSetupTargets_c21) fnExactSetupTargets_c22) fnExactSetupTargets_c23) fnExactSetupTargets_c24) fnExactSetupTargets_c25) fnExactSetupTargets_c26) fnExactSetupTargets_c27) fnExactSetupTargets_c28) fnExactSetupTargets_c29) fnExactSetupTargets_c30) fnExactSetupTargets_c31
end Go.Proofs.YtaccffcigblceaaGreatDoor
