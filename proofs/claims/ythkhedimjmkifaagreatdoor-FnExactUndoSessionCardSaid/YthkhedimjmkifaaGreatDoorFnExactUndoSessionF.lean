/-
  FnExactUndoSession: what the row says of the program, fact by fact.
-/
import Derived.Test.YthkhedimjmkifaaGreatDoorRows
import Derived.Test.YthkhedimjmkifaaGreatDoorChecked
import Derived.KernelRfl
import Derived.JoinedOf
namespace Go.Proofs.YthkhedimjmkifaaGreatDoor
open Go
set_option maxRecDepth 100000
theorem ZNC:(Rows.fnExactUndoSessionRow.wf (OpenSpec.ofChange Rows.fnExactUndoSessionSpec))=true:=by kernel_rfl
theorem ZND:(laidOutB Tryz.prog)=true:=by kernel_rfl
theorem ZNE:(mapsRowed Tryz.prog)=true:=by kernel_rfl
theorem ZNF:(Tryz.f5.params.all (Tryz.prog.readableRec ·))=true:=by kernel_rfl
theorem ZNG:(namedTie Tryz.prog Rows.fnExactUndoSessionRow.named Rows.fnExactUndoSessionSpec.vars)=true:=by kernel_rfl
theorem ZNH:((Rows.fnExactUndoSessionRow.stops == []))=true:=by kernel_rfl
theorem ZNI:((Tryz.prog.stops == []))=true:=by kernel_rfl
theorem ZNJ:((Rows.fnExactUndoSessionRow.knobs == []))=true:=by kernel_rfl
theorem ZNK:((Tryz.prog.stopKnobs == []))=true:=by kernel_rfl
theorem ZNL:((Rows.fnExactUndoSessionRow.inPlace == Tryz.prog.inPlace 5))=true:=by kernel_rfl
theorem ZMI:((Rows.fnExactUndoSessionRow.unfollowed == Tryz.prog.unfollowed 5))=true:=by kernel_rfl
theorem ZMJ:((Rows.fnExactUndoSessionRow.recurses == Tryz.prog.recurses 5))=true:=by kernel_rfl
theorem ZMK:((Rows.fnExactUndoSessionRow.named == Tryz.prog.varsNamed 5))=true:=by kernel_rfl
theorem ZML:((Rows.fnExactUndoSessionRow.maps == (Tryz.f5.params.toList++Rows.fnExactUndoSessionSpec.plain.varTypes Tryz.prog).any (Tryz.prog.mapsRec ·)))=true:=by kernel_rfl
theorem ZMM:((Rows.fnExactUndoSessionRow.ifaces == (Tryz.f5.params.toList++Rows.fnExactUndoSessionSpec.plain.varTypes Tryz.prog).any (Tryz.prog.ifacesRec ·)))=true:=by kernel_rfl
theorem ZMN:((Rows.fnExactUndoSessionRow.mapsOut == Tryz.prog.mapsAmong Tryz.f5.resultTypes.toList))=true:=by kernel_rfl
theorem ZMO:((Rows.fnExactUndoSessionRow.loops == (Tryz.f5.params.toList++Rows.fnExactUndoSessionSpec.plain.varTypes Tryz.prog).any (Tryz.prog.loopsFrom ·)))=true:=by kernel_rfl
theorem ZMP:((Rows.fnExactUndoSessionRow.wideKeys == (Tryz.f5.params.toList++Rows.fnExactUndoSessionSpec.plain.varTypes Tryz.prog++Tryz.f5.resultTypes.toList).any (Tryz.prog.wideKeysFrom ·)))=true:=by kernel_rfl
theorem ZMQ:(Rows.fnExactUndoSessionSpec.vars.all (Tryz.prog.varReadable ·))=true:=by kernel_rfl
theorem ZMR:(Tryz.f5.resultTypes.all (fun t=>Tryz.prog.readableRec t&&decide (t<Tryz.prog.types.size)))=true:=by kernel_rfl
theorem ZMS:((Rows.fnExactUndoSessionRow.ifacesOut == Tryz.f5.resultTypes.toList.any (Tryz.prog.ifacesRec ·)))=true:=by kernel_rfl
theorem ZMT:((Rows.fnExactUndoSessionRow.loopsOut == Tryz.f5.resultTypes.toList.any (Tryz.prog.loopsFrom ·)))=true:=by kernel_rfl
theorem ZMU:((Rows.fnExactUndoSessionRow.plainKeys == Tryz.prog.plainKeys))=true:=by kernel_rfl
theorem ZMV:(Rows.fnExactUndoSessionRow.shortTexts.isNone)=true:=by kernel_rfl
theorem ZMW:(Tryz.prog.stopsHeard)=true:=by kernel_rfl
theorem ZMX:(Tryz.prog.mayEnter)=true:=by kernel_rfl
theorem ZMY:((Rows.fnExactUndoSessionRow.lifted == Tryz.prog.liftsFinal))=true:=by kernel_rfl
theorem ZMZ:((Tryz.prog.make == some Rows.fnExactUndoSessionRow.make))=true:=by kernel_rfl
theorem ZM0:((Rows.fnExactUndoSessionRow.kinds == (if Rows.fnExactUndoSessionRow.domain.isEmpty then [] else Tryz.f5.params.toList.map fun t=>match Tryz.prog.underlying t with | some (.int k)=>some k | _=>none)))=true:=by kernel_rfl
theorem ZM1:((Rows.fnExactUndoSessionRow.pinned == Rows.fnExactUndoSessionRow.pinnedBy))=true:=by kernel_rfl
theorem ZM2:((Rows.fnExactUndoSessionRow.veiled == (Tryz.f5.params.toList++Rows.fnExactUndoSessionSpec.plain.varTypes Tryz.prog++Tryz.f5.resultTypes.toList).any (Tryz.prog.veiledRec ·)))=true:=by kernel_rfl
theorem ZM3:(Rows.fnExactUndoSessionRow.veiledFits Tryz.prog Tryz.f5.params.toList (Tryz.f5.params.toList++Rows.fnExactUndoSessionSpec.plain.varTypes Tryz.prog++Tryz.f5.resultTypes.toList))=true:=by kernel_rfl
theorem ZIA {a b:Bool} (h1:a=true) (h2:b=true):(a&&b)=true:=by rw [h1,h2];rfl
theorem ZK2:joinedFacts Tryz.prog 5 Tryz.f5 Rows.fnExactUndoSessionSpec Rows.fnExactUndoSessionRow=true:=by
 unfold joinedFacts
 exact ZIA (ZIA (ZIA (ZIA (ZIA (ZIA (ZIA (ZIA (ZIA (ZIA (ZIA (ZIA (ZIA (ZIA (ZIA (ZIA (ZIA (ZIA (ZIA (ZIA (ZIA (ZIA (ZIA (ZIA (ZIA (ZIA (ZIA (ZIA (ZIA (ZIA (ZIA (ZNC) ZND) ZNE) ZNF) ZNG) ZNH) ZNI) ZNJ) ZNK) ZNL) ZMI) ZMJ) ZMK) ZML) ZMM) ZMN) ZMO) ZMP) ZMQ) ZMR) ZMS) ZMT) ZMU) ZMV) ZMW) ZMX) ZMY) ZMZ) ZM0) ZM1) ZM2) ZM3
end Go.Proofs.YthkhedimjmkifaaGreatDoor
