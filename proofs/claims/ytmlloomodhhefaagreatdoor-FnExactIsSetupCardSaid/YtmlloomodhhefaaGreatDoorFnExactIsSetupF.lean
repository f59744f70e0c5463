/-
  FnExactIsSetup: what the row says of the program, fact by fact.
-/
import Derived.Test.YtmlloomodhhefaaGreatDoorRows
import Derived.Test.YtmlloomodhhefaaGreatDoorChecked
import Derived.KernelRfl
import Derived.JoinedOf
namespace Go.Proofs.YtmlloomodhhefaaGreatDoor
open Go
set_option maxRecDepth 100000
theorem fnExactIsSetup_c0 : (Rows.fnExactIsSetupRow.wf (OpenSpec.ofChange Rows.fnExactIsSetupSpec)) = true := by kernel_rfl
theorem fnExactIsSetup_c1 : (laidOutB Tryz.prog) = true := by kernel_rfl
theorem fnExactIsSetup_c2 : (mapsRowed Tryz.prog) = true := by kernel_rfl
theorem fnExactIsSetup_c3 : (Tryz.f3.params.all (Tryz.prog.readableRec ·)) = true := by kernel_rfl
theorem fnExactIsSetup_c4 : (namedTie Tryz.prog Rows.fnExactIsSetupRow.named Rows.fnExactIsSetupSpec.vars) = true := by kernel_rfl
theorem fnExactIsSetup_c5 : ((Rows.fnExactIsSetupRow.stops == [])) = true := by kernel_rfl
theorem fnExactIsSetup_c6 : ((Tryz.prog.stops == [])) = true := by kernel_rfl
theorem fnExactIsSetup_c7 : ((Rows.fnExactIsSetupRow.knobs == [])) = true := by kernel_rfl
theorem fnExactIsSetup_c8 : ((Tryz.prog.stopKnobs == [])) = true := by kernel_rfl
theorem fnExactIsSetup_c9 : ((Rows.fnExactIsSetupRow.inPlace == Tryz.prog.inPlace 3)) = true := by kernel_rfl
theorem fnExactIsSetup_c10 : ((Rows.fnExactIsSetupRow.unfollowed == Tryz.prog.unfollowed 3)) = true := by kernel_rfl
theorem fnExactIsSetup_c11 : ((Rows.fnExactIsSetupRow.recurses == Tryz.prog.recurses 3)) = true := by kernel_rfl
theorem fnExactIsSetup_c12 : ((Rows.fnExactIsSetupRow.named == Tryz.prog.varsNamed 3)) = true := by kernel_rfl
theorem fnExactIsSetup_c13 : ((Rows.fnExactIsSetupRow.maps == (Tryz.f3.params.toList ++ Rows.fnExactIsSetupSpec.plain.varTypes Tryz.prog).any (Tryz.prog.mapsRec ·))) = true := by kernel_rfl
theorem fnExactIsSetup_c14 : ((Rows.fnExactIsSetupRow.ifaces == (Tryz.f3.params.toList ++ Rows.fnExactIsSetupSpec.plain.varTypes Tryz.prog).any (Tryz.prog.ifacesRec ·))) = true := by kernel_rfl
theorem fnExactIsSetup_c15 : ((Rows.fnExactIsSetupRow.mapsOut == Tryz.prog.mapsAmong Tryz.f3.resultTypes.toList)) = true := by kernel_rfl
theorem fnExactIsSetup_c16 : ((Rows.fnExactIsSetupRow.loops == (Tryz.f3.params.toList ++ Rows.fnExactIsSetupSpec.plain.varTypes Tryz.prog).any (Tryz.prog.loopsFrom ·))) = true := by kernel_rfl
theorem fnExactIsSetup_c17 : ((Rows.fnExactIsSetupRow.wideKeys == (Tryz.f3.params.toList ++ Rows.fnExactIsSetupSpec.plain.varTypes Tryz.prog ++ Tryz.f3.resultTypes.toList).any (Tryz.prog.wideKeysFrom ·))) = true := by kernel_rfl
theorem fnExactIsSetup_c18 : (Rows.fnExactIsSetupSpec.vars.all (Tryz.prog.varReadable ·)) = true := by kernel_rfl
theorem fnExactIsSetup_c19 : (Tryz.f3.resultTypes.all (fun t => Tryz.prog.readableRec t && decide (t < Tryz.prog.types.size))) = true := by kernel_rfl
theorem fnExactIsSetup_c20 : ((Rows.fnExactIsSetupRow.ifacesOut == Tryz.f3.resultTypes.toList.any (Tryz.prog.ifacesRec ·))) = true := by kernel_rfl
theorem fnExactIsSetup_c21 : ((Rows.fnExactIsSetupRow.loopsOut == Tryz.f3.resultTypes.toList.any (Tryz.prog.loopsFrom ·))) = true := by kernel_rfl
theorem fnExactIsSetup_c22 : ((Rows.fnExactIsSetupRow.plainKeys == Tryz.prog.plainKeys)) = true := by kernel_rfl
theorem fnExactIsSetup_c23 : (Rows.fnExactIsSetupRow.shortTexts.isNone) = true := by kernel_rfl
theorem fnExactIsSetup_c24 : (Tryz.prog.stopsHeard) = true := by kernel_rfl
theorem fnExactIsSetup_c25 : (Tryz.prog.mayEnter) = true := by kernel_rfl
theorem fnExactIsSetup_c26 : ((Rows.fnExactIsSetupRow.lifted == Tryz.prog.liftsFinal)) = true := by kernel_rfl
theorem fnExactIsSetup_c27 : ((Tryz.prog.make == some Rows.fnExactIsSetupRow.make)) = true := by kernel_rfl
theorem fnExactIsSetup_c28 : ((Rows.fnExactIsSetupRow.kinds == (if Rows.fnExactIsSetupRow.domain.isEmpty then [] else Tryz.f3.params.toList.map fun t => match Tryz.prog.underlying t with | some (.int k) => some k | _ => none))) = true := by kernel_rfl
theorem fnExactIsSetup_c29 : ((Rows.fnExactIsSetupRow.pinned == Rows.fnExactIsSetupRow.pinnedBy)) = true := by kernel_rfl
theorem fnExactIsSetup_c30 : ((Rows.fnExactIsSetupRow.veiled == (Tryz.f3.params.toList ++ Rows.fnExactIsSetupSpec.plain.varTypes Tryz.prog ++ Tryz.f3.resultTypes.toList).any (Tryz.prog.veiledRec ·))) = true := by kernel_rfl
theorem fnExactIsSetup_c31 : (Rows.fnExactIsSetupRow.veiledFits Tryz.prog Tryz.f3.params.toList (Tryz.f3.params.toList ++ Rows.fnExactIsSetupSpec.plain.varTypes Tryz.prog ++ Tryz.f3.resultTypes.toList)) = true := by kernel_rfl
theorem fnExactIsSetup_and {a b : Bool} (h1 : a = true) (h2 : b = true) : (a && b) = true := by rw [h1, h2]; rfl
theorem fnExactIsSetup_closed : joinedFacts Tryz.prog 3 Tryz.f3 Rows.fnExactIsSetupSpec Rows.fnExactIsSetupRow = true := by
  unfold joinedFacts
  exact fnExactIsSetup_and (fnExactIsSetup_and (fnExactIsSetup_and (fnExactIsSetup_and (fnExactIsSetup_and (fnExactIsSetup_and (fnExactIsSetup_and (fnExactIsSetup_and (fnExactIsSetup_and (fnExactIsSetup_and (fnExactIsSetup_and (fnExactIsSetup_and (fnExactIsSetup_and (fnExactIsSetup_and (fnExactIsSetup_and (fnExactIsSetup_and (fnExactIsSetup_and (fnExactIsSetup_and (fnExactIsSetup_and (fnExactIsSetup_and (fnExactIsSetup_and (fnExactIsSetup_and (fnExactIsSetup_and (fnExactIsSetup_and (fnExactIsSetup_and (fnExactIsSetup_and (fnExactIsSetup_and (fnExactIsSetup_and (fnExactIsSetup_and (fnExactIsSetup_and (fnExactIsSetup_and (fnExactIsSetup_c0) fnExactIsSetup_c1) fnExactIsSetup_c2) fnExactIsSetup_c3) fnExactIsSetup_c4) fnExactIsSetup_c5) fnExactIsSetup_c6) fnExactIsSetup_c7) fnExactIsSetup_c8) fnExactIsSetup_c9) fnExactIsSetup_c10) fnExactIsSetup_c11) fnExactIsSetup_c12) fnExactIsSetup_c13) fnExactIsSetup_c14) fnExactIsSetup_c15) fnExactIsSetup_c16) fnExactIsSetup_c17) fnExactIsSetup_c18) fnExactIsSetup_c19) fnExactIsSetup_c20) fnExactIsSetup_c21) fnExactIsSetup_c22) fnExactIsSetup_c23) fnExactIsSetup_c24) fnExactIsSetup_c25) fnExactIsSetup_c26) fnExactIsSetup_c27) fnExactIsSetup_c28) fnExactIsSetup_c29) fnExactIsSetup_c30) fnExactIsSetup_c31
end Go.Proofs.YtmlloomodhhefaaGreatDoor
