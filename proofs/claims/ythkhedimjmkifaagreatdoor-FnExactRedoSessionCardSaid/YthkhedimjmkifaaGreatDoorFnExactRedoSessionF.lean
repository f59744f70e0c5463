/-
  FnExactRedoSession: what the row says of the program, fact by fact.
-/
import Derived.Test.YthkhedimjmkifaaGreatDoorRows
import Derived.Test.YthkhedimjmkifaaGreatDoorChecked
import Derived.KernelRfl
import Derived.JoinedOf
namespace Go.Proofs.YthkhedimjmkifaaGreatDoor
open Go
set_option maxRecDepth 100000
theorem ZNs:(Rows.fnExactRedoSessionRow.wf (OpenSpec.ofChange Rows.fnExactRedoSessionSpec))=true:=by kernel_rfl
theorem ZNt:(laidOutB Tryz.prog)=true:=by kernel_rfl
theorem ZNu:(mapsRowed Tryz.prog)=true:=by kernel_rfl
theorem ZNv:(Tryz.f6.params.all (Tryz.prog.readableRec ·))=true:=by kernel_rfl
theorem ZNw:(namedTie Tryz.prog Rows.fnExactRedoSessionRow.named Rows.fnExactRedoSessionSpec.vars)=true:=by kernel_rfl
theorem ZNx:((Rows.fnExactRedoSessionRow.stops == []))=true:=by kernel_rfl
theorem ZNy:((Tryz.prog.stops == []))=true:=by kernel_rfl
theorem ZNz:((Rows.fnExactRedoSessionRow.knobs == []))=true:=by kernel_rfl
theorem ZNA:((Tryz.prog.stopKnobs == []))=true:=by kernel_rfl
theorem ZNB:((Rows.fnExactRedoSessionRow.inPlace == Tryz.prog.inPlace 6))=true:=by kernel_rfl
theorem ZMk:((Rows.fnExactRedoSessionRow.unfollowed == Tryz.prog.unfollowed 6))=true:=by kernel_rfl
theorem ZMl:((Rows.fnExactRedoSessionRow.recurses == Tryz.prog.recurses 6))=true:=by kernel_rfl
theorem ZMm:((Rows.fnExactRedoSessionRow.named == Tryz.prog.varsNamed 6))=true:=by kernel_rfl
theorem ZMn:((Rows.fnExactRedoSessionRow.maps == (Tryz.f6.params.toList++Rows.fnExactRedoSessionSpec.plain.varTypes Tryz.prog).any (Tryz.prog.mapsRec ·)))=true:=by kernel_rfl
theorem ZMo:((Rows.fnExactRedoSessionRow.ifaces == (Tryz.f6.params.toList++Rows.fnExactRedoSessionSpec.plain.varTypes Tryz.prog).any (Tryz.prog.ifacesRec ·)))=true:=by kernel_rfl
theorem ZMp:((Rows.fnExactRedoSessionRow.mapsOut == Tryz.prog.mapsAmong Tryz.f6.resultTypes.toList))=true:=by kernel_rfl
theorem ZMq:((Rows.fnExactRedoSessionRow.loops == (Tryz.f6.params.toList++Rows.fnExactRedoSessionSpec.plain.varTypes Tryz.prog).any (Tryz.prog.loopsFrom ·)))=true:=by kernel_rfl
theorem ZMr:((Rows.fnExactRedoSessionRow.wideKeys == (Tryz.f6.params.toList++Rows.fnExactRedoSessionSpec.plain.varTypes Tryz.prog++Tryz.f6.resultTypes.toList).any (Tryz.prog.wideKeysFrom ·)))=true:=by kernel_rfl
theorem ZMs:(Rows.fnExactRedoSessionSpec.vars.all (Tryz.prog.varReadable ·))=true:=by kernel_rfl
theorem ZMt:(Tryz.f6.resultTypes.all (fun t=>Tryz.prog.readableRec t&&decide (t<Tryz.prog.types.size)))=true:=by kernel_rfl
theorem ZMu:((Rows.fnExactRedoSessionRow.ifacesOut == Tryz.f6.resultTypes.toList.any (Tryz.prog.ifacesRec ·)))=true:=by kernel_rfl
theorem ZMv:((Rows.fnExactRedoSessionRow.loopsOut == Tryz.f6.resultTypes.toList.any (Tryz.prog.loopsFrom ·)))=true:=by kernel_rfl
theorem ZMw:((Rows.fnExactRedoSessionRow.plainKeys == Tryz.prog.plainKeys))=true:=by kernel_rfl
theorem ZMx:(Rows.fnExactRedoSessionRow.shortTexts.isNone)=true:=by kernel_rfl
theorem ZMy:(Tryz.prog.stopsHeard)=true:=by kernel_rfl
theorem ZMz:(Tryz.prog.mayEnter)=true:=by kernel_rfl
theorem ZMA:((Rows.fnExactRedoSessionRow.lifted == Tryz.prog.liftsFinal))=true:=by kernel_rfl
theorem ZMB:((Tryz.prog.make == some Rows.fnExactRedoSessionRow.make))=true:=by kernel_rfl
theorem ZMC:((Rows.fnExactRedoSessionRow.kinds == (if Rows.fnExactRedoSessionRow.domain.isEmpty then [] else Tryz.f6.params.toList.map fun t=>match Tryz.prog.underlying t with | some (.int k)=>some k | _=>none)))=true:=by kernel_rfl
theorem ZMD:((Rows.fnExactRedoSessionRow.pinned == Rows.fnExactRedoSessionRow.pinnedBy))=true:=by kernel_rfl
theorem ZME:((Rows.fnExactRedoSessionRow.veiled == (Tryz.f6.params.toList++Rows.fnExactRedoSessionSpec.plain.varTypes Tryz.prog++Tryz.f6.resultTypes.toList).any (Tryz.prog.veiledRec ·)))=true:=by kernel_rfl
theorem ZMF:(Rows.fnExactRedoSessionRow.veiledFits Tryz.prog Tryz.f6.params.toList (Tryz.f6.params.toList++Rows.fnExactRedoSessionSpec.plain.varTypes Tryz.prog++Tryz.f6.resultTypes.toList))=true:=by kernel_rfl
theorem ZIz {a b:Bool} (h1:a=true) (h2:b=true):(a&&b)=true:=by rw [h1,h2];rfl
theorem ZK0:joinedFacts Tryz.prog 6 Tryz.f6 Rows.fnExactRedoSessionSpec Rows.fnExactRedoSessionRow=true:=by
 unfold joinedFacts
 exact ZIz (ZIz (ZIz (ZIz (ZIz (ZIz (ZIz (ZIz (ZIz (ZIz (ZIz (ZIz (ZIz (ZIz (ZIz (ZIz (ZIz (ZIz (ZIz (ZIz (ZIz (ZIz (ZIz (ZIz (ZIz (ZIz (ZIz (ZIz (ZIz (ZIz (ZIz (ZNs) ZNt) ZNu) ZNv) ZNw) ZNx) ZNy) ZNz) ZNA) ZNB) ZMk) ZMl) ZMm) ZMn) ZMo) ZMp) ZMq) ZMr) ZMs) ZMt) ZMu) ZMv) ZMw) ZMx) ZMy) ZMz) ZMA) ZMB) ZMC) ZMD) ZME) ZMF
end Go.Proofs.YthkhedimjmkifaaGreatDoor
