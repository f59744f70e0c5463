/-
  FnExactEditSession: what the row says of the program, fact by fact.
-/
import Derived.Test.YthkhedimjmkifaaGreatDoorRows
import Derived.Test.YthkhedimjmkifaaGreatDoorChecked
import Derived.KernelRfl
import Derived.JoinedOf
namespace Go.Proofs.YthkhedimjmkifaaGreatDoor
open Go
set_option maxRecDepth 100000
theorem ZM8:(Rows.fnExactEditSessionRow.wf (OpenSpec.ofChange Rows.fnExactEditSessionSpec))=true:=by kernel_rfl
theorem ZM9:(laidOutB Tryz.prog)=true:=by kernel_rfl
theorem ZNa:(mapsRowed Tryz.prog)=true:=by kernel_rfl
theorem ZNb:(Tryz.f7.params.all (Tryz.prog.readableRec ·))=true:=by kernel_rfl
theorem ZNc:(namedTie Tryz.prog Rows.fnExactEditSessionRow.named Rows.fnExactEditSessionSpec.vars)=true:=by kernel_rfl
theorem ZNd:((Rows.fnExactEditSessionRow.stops == []))=true:=by kernel_rfl
theorem ZNe:((Tryz.prog.stops == []))=true:=by kernel_rfl
theorem ZNf:((Rows.fnExactEditSessionRow.knobs == []))=true:=by kernel_rfl
theorem ZNg:((Tryz.prog.stopKnobs == []))=true:=by kernel_rfl
theorem ZNh:((Rows.fnExactEditSessionRow.inPlace == Tryz.prog.inPlace 7))=true:=by kernel_rfl
theorem ZLy:((Rows.fnExactEditSessionRow.unfollowed == Tryz.prog.unfollowed 7))=true:=by kernel_rfl
theorem ZLz:((Rows.fnExactEditSessionRow.recurses == Tryz.prog.recurses 7))=true:=by kernel_rfl
theorem ZLA:((Rows.fnExactEditSessionRow.named == Tryz.prog.varsNamed 7))=true:=by kernel_rfl
theorem ZLB:((Rows.fnExactEditSessionRow.maps == (Tryz.f7.params.toList++Rows.fnExactEditSessionSpec.plain.varTypes Tryz.prog).any (Tryz.prog.mapsRec ·)))=true:=by kernel_rfl
theorem ZLC:((Rows.fnExactEditSessionRow.ifaces == (Tryz.f7.params.toList++Rows.fnExactEditSessionSpec.plain.varTypes Tryz.prog).any (Tryz.prog.ifacesRec ·)))=true:=by kernel_rfl
theorem ZLD:((Rows.fnExactEditSessionRow.mapsOut == Tryz.prog.mapsAmong Tryz.f7.resultTypes.toList))=true:=by kernel_rfl
theorem ZLE:((Rows.fnExactEditSessionRow.loops == (Tryz.f7.params.toList++Rows.fnExactEditSessionSpec.plain.varTypes Tryz.prog).any (Tryz.prog.loopsFrom ·)))=true:=by kernel_rfl
theorem ZLF:((Rows.fnExactEditSessionRow.wideKeys == (Tryz.f7.params.toList++Rows.fnExactEditSessionSpec.plain.varTypes Tryz.prog++Tryz.f7.resultTypes.toList).any (Tryz.prog.wideKeysFrom ·)))=true:=by kernel_rfl
theorem ZLG:(Rows.fnExactEditSessionSpec.vars.all (Tryz.prog.varReadable ·))=true:=by kernel_rfl
theorem ZLH:(Tryz.f7.resultTypes.all (fun t=>Tryz.prog.readableRec t&&decide (t<Tryz.prog.types.size)))=true:=by kernel_rfl
theorem ZLI:((Rows.fnExactEditSessionRow.ifacesOut == Tryz.f7.resultTypes.toList.any (Tryz.prog.ifacesRec ·)))=true:=by kernel_rfl
theorem ZLJ:((Rows.fnExactEditSessionRow.loopsOut == Tryz.f7.resultTypes.toList.any (Tryz.prog.loopsFrom ·)))=true:=by kernel_rfl
theorem ZLK:((Rows.fnExactEditSessionRow.plainKeys == Tryz.prog.plainKeys))=true:=by kernel_rfl
theorem ZLL:(Rows.fnExactEditSessionRow.shortTexts.isNone)=true:=by kernel_rfl
theorem ZLM:(Tryz.prog.stopsHeard)=true:=by kernel_rfl
theorem ZLN:(Tryz.prog.mayEnter)=true:=by kernel_rfl
theorem ZLO:((Rows.fnExactEditSessionRow.lifted == Tryz.prog.liftsFinal))=true:=by kernel_rfl
theorem ZLP:((Tryz.prog.make == some Rows.fnExactEditSessionRow.make))=true:=by kernel_rfl
theorem ZLQ:((Rows.fnExactEditSessionRow.kinds == (if Rows.fnExactEditSessionRow.domain.isEmpty then [] else Tryz.f7.params.toList.map fun t=>match Tryz.prog.underlying t with | some (.int k)=>some k | _=>none)))=true:=by kernel_rfl
theorem ZLR:((Rows.fnExactEditSessionRow.pinned == Rows.fnExactEditSessionRow.pinnedBy))=true:=by kernel_rfl
theorem ZLS:((Rows.fnExactEditSessionRow.veiled == (Tryz.f7.params.toList++Rows.fnExactEditSessionSpec.plain.varTypes Tryz.prog++Tryz.f7.resultTypes.toList).any (Tryz.prog.veiledRec ·)))=true:=by kernel_rfl
theorem ZLT:(Rows.fnExactEditSessionRow.veiledFits Tryz.prog Tryz.f7.params.toList (Tryz.f7.params.toList++Rows.fnExactEditSessionSpec.plain.varTypes Tryz.prog++Tryz.f7.resultTypes.toList))=true:=by kernel_rfl
theorem ZIx {a b:Bool} (h1:a=true) (h2:b=true):(a&&b)=true:=by rw [h1,h2];rfl
theorem ZKW:joinedFacts Tryz.prog 7 Tryz.f7 Rows.fnExactEditSessionSpec Rows.fnExactEditSessionRow=true:=by
 unfold joinedFacts
 exact ZIx (ZIx (ZIx (ZIx (ZIx (ZIx (ZIx (ZIx (ZIx (ZIx (ZIx (ZIx (ZIx (ZIx (ZIx (ZIx (ZIx (ZIx (ZIx (ZIx (ZIx (ZIx (ZIx (ZIx (ZIx (ZIx (ZIx (ZIx (ZIx (ZIx (ZIx (ZM8) ZM9) ZNa) ZNb) ZNc) ZNd) ZNe) ZNf) ZNg) ZNh) ZLy) ZLz) ZLA) ZLB) ZLC) ZLD) ZLE) ZLF) ZLG) ZLH) ZLI) ZLJ) ZLK) ZLL) ZLM) ZLN) ZLO) ZLP) ZLQ) ZLR) ZLS) ZLT
end Go.Proofs.YthkhedimjmkifaaGreatDoor
