/-
  FnExactInverseEdit: what the row says of the program, fact by fact.
-/
import Derived.Test.YtpkjjgdhmafonaaGreatDoorRows
import Derived.Test.YtpkjjgdhmafonaaGreatDoorChecked
import Derived.KernelRfl
import Derived.JoinedOf
namespace Go.Proofs.YtpkjjgdhmafonaaGreatDoor
open Go
set_option maxRecDepth 100000
theorem fnExactInverseEdit_c0 : (Rows.fnExactInverseEditRow.wf (OpenSpec.ofChange Rows.fnExactInverseEditSpec)) = true := by kernel_rfl
theorem fnExactInverseEdit_c1 : (laidOutB Tryz.prog) = true := by kernel_rfl
theorem fnExactInverseEdit_c2 : (mapsRowed Tryz.prog) = true := by kernel_rfl
theorem fnExactInverseEdit_c3 : (Tryz.f3.params.all (Tryz.prog.readableRec ·)) = true := by kernel_rfl
theorem fnExactInverseEdit_c4 : (namedTie Tryz.prog Rows.fnExactInverseEditRow.named Rows.fnExactInverseEditSpec.vars) = true := by kernel_rfl
theorem fnExactInverseEdit_c5 : ((Rows.fnExactInverseEditRow.stops == [])) = true := by kernel_rfl
theorem fnExactInverseEdit_c6 : ((Tryz.prog.stops == [])) = true := by kernel_rfl
theorem fnExactInverseEdit_c7 : ((Rows.fnExactInverseEditRow.knobs == [])) = true := by kernel_rfl
theorem fnExactInverseEdit_c8 : ((Tryz.prog.stopKnobs == [])) = true := by kernel_rfl
theorem fnExactInverseEdit_c9 : ((Rows.fnExactInverseEditRow.inPlace == Tryz.prog.inPlace 3)) = true := by kernel_rfl
theorem fnExactInverseEdit_c10 : ((Rows.fnExactInverseEditRow.unfollowed == Tryz.prog.unfollowed 3)) = true := by kernel_rfl
theorem fnExactInverseEdit_c11 : ((Rows.fnExactInverseEditRow.recurses == Tryz.prog.recurses 3)) = true := by kernel_rfl
theorem fnExactInverseEdit_c12 : ((Rows.fnExactInverseEditRow.named == Tryz.prog.varsNamed 3)) = true := by kernel_rfl
theorem fnExactInverseEdit_c13 : ((Rows.fnExactInverseEditRow.maps == (Tryz.f3.params.toList ++ Rows.fnExactInverseEditSpec.plain.varTypes Tryz.prog).any (Tryz.prog.mapsRec ·))) = true := by kernel_rfl
theorem fnExactInverseEdit_c14 : ((Rows.fnExactInverseEditRow.ifaces == (Tryz.f3.params.toList ++ Rows.fnExactInverseEditSpec.plain.varTypes Tryz.prog).any (Tryz.prog.ifacesRec ·))) = true := by kernel_rfl
theorem fnExactInverseEdit_c15 : ((Rows.fnExactInverseEditRow.mapsOut == Tryz.prog.mapsAmong Tryz.f3.resultTypes.toList)) = true := by kernel_rfl
theorem fnExactInverseEdit_c16 : ((Rows.fnExactInverseEditRow.loops == (Tryz.f3.params.toList ++ Rows.fnExactInverseEditSpec.plain.varTypes Tryz.prog).any (Tryz.prog.loopsFrom ·))) = true := by kernel_rfl
theorem fnExactInverseEdit_c17 : ((Rows.fnExactInverseEditRow.wideKeys == (Tryz.f3.params.toList ++ Rows.fnExactInverseEditSpec.plain.varTypes Tryz.prog ++ Tryz.f3.resultTypes.toList).any (Tryz.prog.wideKeysFrom ·))) = true := by kernel_rfl
theorem fnExactInverseEdit_c18 : (Rows.fnExactInverseEditSpec.vars.all (Tryz.prog.varReadable ·)) = true := by kernel_rfl
theorem fnExactInverseEdit_c19 : (Tryz.f3.resultTypes.all (fun t => Tryz.prog.readableRec t && decide (t < Tryz.prog.types.size))) = true := by kernel_rfl
theorem fnExactInverseEdit_c20 : ((Rows.fnExactInverseEditRow.ifacesOut == Tryz.f3.resultTypes.toList.any (Tryz.prog.ifacesRec ·))) = true := by kernel_rfl
theorem fnExactInverseEdit_c21 : ((Rows.fnExactInverseEditRow.loopsOut == Tryz.f3.resultTypes.toList.any (Tryz.prog.loopsFrom ·))) = true := by kernel_rfl
theorem fnExactInverseEdit_c22 : ((Rows.fnExactInverseEditRow.plainKeys == Tryz.prog.plainKeys)) = true := by kernel_rfl
theorem fnExactInverseEdit_c23 : (Rows.fnExactInverseEditRow.shortTexts.isNone) = true := by kernel_rfl
theorem fnExactInverseEdit_c24 : (Tryz.prog.stopsHeard) = true := by kernel_rfl
theorem fnExactInverseEdit_c25 : (Tryz.prog.mayEnter) = true := by kernel_rfl
theorem fnExactInverseEdit_c26 : ((Rows.fnExactInverseEditRow.lifted == Tryz.prog.liftsFinal)) = true := by kernel_rfl
theorem fnExactInverseEdit_c27 : ((Tryz.prog.make == some Rows.fnExactInverseEditRow.make)) = true := by kernel_rfl
theorem fnExactInverseEdit_c28 : ((Rows.fnExactInverseEditRow.kinds == (if Rows.fnExactInverseEditRow.domain.isEmpty then [] else Tryz.f3.params.toList.map fun t => match Tryz.prog.underlying t with | some (.int k) => some k | _ => none))) = true := by kernel_rfl
theorem fnExactInverseEdit_c29 : ((Rows.fnExactInverseEditRow.pinned == Rows.fnExactInverseEditRow.pinnedBy)) = true := by kernel_rfl
theorem fnExactInverseEdit_c30 : ((Rows.fnExactInverseEditRow.veiled == (Tryz.f3.params.toList ++ Rows.fnExactInverseEditSpec.plain.varTypes Tryz.prog ++ Tryz.f3.resultTypes.toList).any (Tryz.prog.veiledRec ·))) = true := by kernel_rfl
theorem fnExactInverseEdit_c31 : (Rows.fnExactInverseEditRow.veiledFits Tryz.prog Tryz.f3.params.toList (Tryz.f3.params.toList ++ Rows.fnExactInverseEditSpec.plain.varTypes Tryz.prog ++ Tryz.f3.resultTypes.toList)) = true := by kernel_rfl
theorem fnExactInverseEdit_and {a b : Bool} (h1 : a = true) (h2 : b = true) : (a && b) = true := by rw [h1, h2]; rfl
theorem fnExactInverseEdit_closed : joinedFacts Tryz.prog 3 Tryz.f3 Rows.fnExactInverseEditSpec Rows.fnExactInverseEditRow = true := by
  unfold joinedFacts
  exact fnExactInverseEdit_and (fnExactInverseEdit_and (fnExactInverseEdit_and (fnExactInverseEdit_and (fnExactInverseEdit_and (fnExactInverseEdit_and (fnExactInverseEdit_and (fnExactInverseEdit_and (fnExactInverseEdit_and (fnExactInverseEdit_and (fnExactInverseEdit_and (fnExactInverseEdit_and (fnExactInverseEdit_and (fnExactInverseEdit_and (fnExactInverseEdit_and (fnExactInverseEdit_and (fnExactInverseEdit_and (fnExactInverseEdit_and (fnExactInverseEdit_and (fnExactInverseEdit_and (fnExactInverseEdit_and (fnExactInverseEdit_and (fnExactInverseEdit_and (fnExactInverseEdit_and (fnExactInverseEdit_and (fnExactInverseEdit_and (fnExactInverseEdit_and (fnExactInverseEdit_and (fnExactInverseEdit_and (fnExactInverseEdit_and (fnExactInverseEdit_and (fnExactInverseEdit_c0) fnExactInverseEdit_c1) fnExactInverseEdit_c2) fnExactInverseEdit_c3) fnExactInverseEdit_c4) fnExactInverseEdit_c5) fnExactInverseEdit_c6) fnExactInverseEdit_c7) fnExactInverseEdit_c8) fnExactInverseEdit_c9) fnExactInverseEdit_c10) fnExactInverseEdit_c11) fnExactInverseEdit_c12) fnExactInverseEdit_c13) fnExactInverseEdit_c14) fnExactInverseEdit_c15) fnExactInverseEdit_c16) fnExactInverseEdit_c17) fnExactInverseEdit_c18) fnExactInverseEdit_c19) fnExactInverseEdit_c20) fnExactInverseEdit_c21) fnExactInverseEdit_c22) fnExactInverseEdit_c23) fnExactInverseEdit_c24) fnExactInverseEdit_c25) fnExactInverseEdit_c26) fnExactInverseEdit_c27) fnExactInverseEdit_c28) fnExactInverseEdit_c29) fnExactInverseEdit_c30) fnExactInverseEdit_c31
end Go.Proofs.YtpkjjgdhmafonaaGreatDoor
