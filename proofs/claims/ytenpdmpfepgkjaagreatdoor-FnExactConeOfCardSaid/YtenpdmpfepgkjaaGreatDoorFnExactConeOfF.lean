/-
  FnExactConeOf: what the row says of the program, fact by fact.
-/
import Derived.Test.YtenpdmpfepgkjaaGreatDoorRows
import Derived.Test.YtenpdmpfepgkjaaGreatDoorChecked
import Derived.KernelRfl
import Derived.JoinedOf
namespace Go.Proofs.YtenpdmpfepgkjaaGreatDoor
open Go
set_option maxRecDepth 100000
theorem fnExactConeOf_c0 : (Rows.fnExactConeOfRow.wf (OpenSpec.ofChange Rows.fnExactConeOfSpec)) = true := by kernel_rfl
theorem fnExactConeOf_c1 : (laidOutB Tryz.prog) = true := by kernel_rfl
theorem fnExactConeOf_c2 : (mapsRowed Tryz.prog) = true := by kernel_rfl
theorem fnExactConeOf_c3 : (Tryz.f4.params.all (Tryz.prog.readableRec ·)) = true := by kernel_rfl
theorem fnExactConeOf_c4 : (namedTie Tryz.prog Rows.fnExactConeOfRow.named Rows.fnExactConeOfSpec.vars) = true := by kernel_rfl
theorem fnExactConeOf_c5 : ((Rows.fnExactConeOfRow.stops == [])) = true := by kernel_rfl
theorem fnExactConeOf_c6 : ((Tryz.prog.stops == [])) = true := by kernel_rfl
theorem fnExactConeOf_c7 : ((Rows.fnExactConeOfRow.knobs == [])) = true := by kernel_rfl
theorem fnExactConeOf_c8 : ((Tryz.prog.stopKnobs == [])) = true := by kernel_rfl
theorem fnExactConeOf_c9 : ((Rows.fnExactConeOfRow.inPlace == Tryz.prog.inPlace 4)) = true := by kernel_rfl
theorem fnExactConeOf_c10 : ((Rows.fnExactConeOfRow.unfollowed == Tryz.prog.unfollowed 4)) = true := by kernel_rfl
theorem fnExactConeOf_c11 : ((Rows.fnExactConeOfRow.recurses == Tryz.prog.recurses 4)) = true := by kernel_rfl
theorem fnExactConeOf_c12 : ((Rows.fnExactConeOfRow.named == Tryz.prog.varsNamed 4)) = true := by kernel_rfl
theorem fnExactConeOf_c13 : ((Rows.fnExactConeOfRow.maps == (Tryz.f4.params.toList ++ Rows.fnExactConeOfSpec.plain.varTypes Tryz.prog).any (Tryz.prog.mapsRec ·))) = true := by kernel_rfl
theorem fnExactConeOf_c14 : ((Rows.fnExactConeOfRow.ifaces == (Tryz.f4.params.toList ++ Rows.fnExactConeOfSpec.plain.varTypes Tryz.prog).any (Tryz.prog.ifacesRec ·))) = true := by kernel_rfl
theorem fnExactConeOf_c15 : ((Rows.fnExactConeOfRow.mapsOut == Tryz.prog.mapsAmong Tryz.f4.resultTypes.toList)) = true := by kernel_rfl
theorem fnExactConeOf_c16 : ((Rows.fnExactConeOfRow.loops == (Tryz.f4.params.toList ++ Rows.fnExactConeOfSpec.plain.varTypes Tryz.prog).any (Tryz.prog.loopsFrom ·))) = true := by kernel_rfl
theorem fnExactConeOf_c17 : ((Rows.fnExactConeOfRow.wideKeys == (Tryz.f4.params.toList ++ Rows.fnExactConeOfSpec.plain.varTypes Tryz.prog ++ Tryz.f4.resultTypes.toList).any (Tryz.prog.wideKeysFrom ·))) = true := by kernel_rfl
theorem fnExactConeOf_c18 : (Rows.fnExactConeOfSpec.vars.all (Tryz.prog.varReadable ·)) = true := by kernel_rfl
theorem fnExactConeOf_c19 : (Tryz.f4.resultTypes.all (fun t => Tryz.prog.readableRec t && decide (t < Tryz.prog.types.size))) = true := by kernel_rfl
theorem fnExactConeOf_c20 : ((Rows.fnExactConeOfRow.ifacesOut == Tryz.f4.resultTypes.toList.any (Tryz.prog.ifacesRec ·))) = true := by kernel_rfl
theorem fnExactConeOf_c21 : ((Rows.fnExactConeOfRow.loopsOut == Tryz.f4.resultTypes.toList.any (Tryz.prog.loopsFrom ·))) = true := by kernel_rfl
theorem fnExactConeOf_c22 : ((Rows.fnExactConeOfRow.plainKeys == Tryz.prog.plainKeys)) = true := by kernel_rfl
theorem fnExactConeOf_c23 : (Rows.fnExactConeOfRow.shortTexts.isNone) = true := by kernel_rfl
theorem fnExactConeOf_c24 : (Tryz.prog.stopsHeard) = true := by kernel_rfl
theorem fnExactConeOf_c25 : (Tryz.prog.mayEnter) = true := by kernel_rfl
theorem fnExactConeOf_c26 : ((Rows.fnExactConeOfRow.lifted == Tryz.prog.liftsFinal)) = true := by kernel_rfl
theorem fnExactConeOf_c27 : ((Tryz.prog.make == some Rows.fnExactConeOfRow.make)) = true := by kernel_rfl
theorem fnExactConeOf_c28 : ((Rows.fnExactConeOfRow.kinds == (if Rows.fnExactConeOfRow.domain.isEmpty then [] else Tryz.f4.params.toList.map fun t => match Tryz.prog.underlying t with | some (.int k) => some k | _ => none))) = true := by kernel_rfl
theorem fnExactConeOf_c29 : ((Rows.fnExactConeOfRow.pinned == Rows.fnExactConeOfRow.pinnedBy)) = true := by kernel_rfl
theorem fnExactConeOf_c30 : ((Rows.fnExactConeOfRow.veiled == (Tryz.f4.params.toList ++ Rows.fnExactConeOfSpec.plain.varTypes Tryz.prog ++ Tryz.f4.resultTypes.toList).any (Tryz.prog.veiledRec ·))) = true := by kernel_rfl
theorem fnExactConeOf_c31 : (Rows.fnExactConeOfRow.veiledFits Tryz.prog Tryz.f4.params.toList (Tryz.f4.params.toList ++ Rows.fnExactConeOfSpec.plain.varTypes Tryz.prog ++ Tryz.f4.resultTypes.toList)) = true := by kernel_rfl
theorem fnExactConeOf_and {a b : Bool} (h1 : a = true) (h2 : b = true) : (a && b) = true := by rw [h1, h2]; rfl
theorem fnExactConeOf_closed : joinedFacts Tryz.prog 4 Tryz.f4 Rows.fnExactConeOfSpec Rows.fnExactConeOfRow = true := by
  unfold joinedFacts
  exact fnExactConeOf_and (fnExactConeOf_and (fnExactConeOf_and (fnExactConeOf_and (fnExactConeOf_and (fnExactConeOf_and (fnExactConeOf_and (fnExactConeOf_and (fnExactConeOf_and (fnExactConeOf_and (fnExactConeOf_and (fnExactConeOf_and (fnExactConeOf_and (fnExactConeOf_and (fnExactConeOf_and (fnExactConeOf_and (fnExactConeOf_and (fnExactConeOf_and (fnExactConeOf_and (fnExactConeOf_and (fnExactConeOf_and (fnExactConeOf_and (fnExactConeOf_and (fnExactConeOf_and (fnExactConeOf_and (fnExactConeOf_and (fnExactConeOf_and (fnExactConeOf_and (fnExactConeOf_and (fnExactConeOf_and (fnExactConeOf_and (fnExactConeOf_c0) fnExactConeOf_c1) fnExactConeOf_c2) fnExactConeOf_c3) fnExactConeOf_c4) fnExactConeOf_c5) fnExactConeOf_c6) fnExactConeOf_c7) fnExactConeOf_c8) fnExactConeOf_c9) fnExactConeOf_c10) fnExactConeOf_c11) fnExactConeOf_c12) fnExactConeOf_c13) fnExactConeOf_c14) fnExactConeOf_c15) fnExactConeOf_c16) fnExactConeOf_c17) fnExactConeOf_c18) fnExactConeOf_c19) fnExactConeOf_c20) fnExactConeOf_c21) fnExactConeOf_c22) fnExactConeOf_c23) fnExactConeOf_c24) fnExactConeOf_c25) fnExactConeOf_c26) fnExactConeOf_c27) fnExactConeOf_c28) fnExactConeOf_c29) fnExactConeOf_c30) fnExactConeOf_c31
end Go.Proofs.YtenpdmpfepgkjaaGreatDoor
