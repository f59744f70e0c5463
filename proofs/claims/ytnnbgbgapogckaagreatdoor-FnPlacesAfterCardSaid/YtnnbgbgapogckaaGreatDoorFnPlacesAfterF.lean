/-
  FnPlacesAfter: what the row says of the program, fact by fact.
-/
import Derived.Test.YtnnbgbgapogckaaGreatDoorRows
import Derived.Test.YtnnbgbgapogckaaGreatDoorChecked
import Derived.KernelRfl
import Derived.JoinedOf
namespace Go.Proofs.YtnnbgbgapogckaaGreatDoor
open Go
set_option maxRecDepth 100000
theorem ZLW:(Rows.fnPlacesAfterRow.wf (OpenSpec.ofChange Rows.fnPlacesAfterSpec))=true:=by kernel_rfl
theorem ZLX:(laidOutB Tryz.prog)=true:=by kernel_rfl
theorem ZLY:(mapsRowed Tryz.prog)=true:=by kernel_rfl
theorem ZLZ:(Tryz.f8.params.all (Tryz.prog.readableRec ·))=true:=by kernel_rfl
theorem ZL0:(namedTie Tryz.prog Rows.fnPlacesAfterRow.named Rows.fnPlacesAfterSpec.vars)=true:=by kernel_rfl
theorem ZL1:((Rows.fnPlacesAfterRow.stops == []))=true:=by kernel_rfl
theorem ZL2:((Tryz.prog.stops == []))=true:=by kernel_rfl
theorem ZL3:((Rows.fnPlacesAfterRow.knobs == []))=true:=by kernel_rfl
theorem ZL4:((Tryz.prog.stopKnobs == []))=true:=by kernel_rfl
theorem ZL5:((Rows.fnPlacesAfterRow.inPlace == Tryz.prog.inPlace 8))=true:=by kernel_rfl
theorem ZLu:((Rows.fnPlacesAfterRow.unfollowed == Tryz.prog.unfollowed 8))=true:=by kernel_rfl
theorem ZLv:((Rows.fnPlacesAfterRow.recurses == Tryz.prog.recurses 8))=true:=by kernel_rfl
theorem ZLw:((Rows.fnPlacesAfterRow.named == Tryz.prog.varsNamed 8))=true:=by kernel_rfl
theorem ZLx:((Rows.fnPlacesAfterRow.maps == (Tryz.f8.params.toList++Rows.fnPlacesAfterSpec.plain.varTypes Tryz.prog).any (Tryz.prog.mapsRec ·)))=true:=by kernel_rfl
theorem ZLy:((Rows.fnPlacesAfterRow.ifaces == (Tryz.f8.params.toList++Rows.fnPlacesAfterSpec.plain.varTypes Tryz.prog).any (Tryz.prog.ifacesRec ·)))=true:=by kernel_rfl
theorem ZLz:((Rows.fnPlacesAfterRow.mapsOut == Tryz.prog.mapsAmong Tryz.f8.resultTypes.toList))=true:=by kernel_rfl
theorem ZLA:((Rows.fnPlacesAfterRow.loops == (Tryz.f8.params.toList++Rows.fnPlacesAfterSpec.plain.varTypes Tryz.prog).any (Tryz.prog.loopsFrom ·)))=true:=by kernel_rfl
theorem ZLB:((Rows.fnPlacesAfterRow.wideKeys == (Tryz.f8.params.toList++Rows.fnPlacesAfterSpec.plain.varTypes Tryz.prog++Tryz.f8.resultTypes.toList).any (Tryz.prog.wideKeysFrom ·)))=true:=by kernel_rfl
theorem ZLC:(Rows.fnPlacesAfterSpec.vars.all (Tryz.prog.varReadable ·))=true:=by kernel_rfl
theorem ZLD:(Tryz.f8.resultTypes.all (fun t=>Tryz.prog.readableRec t&&decide (t<Tryz.prog.types.size)))=true:=by kernel_rfl
theorem ZLE:((Rows.fnPlacesAfterRow.ifacesOut == Tryz.f8.resultTypes.toList.any (Tryz.prog.ifacesRec ·)))=true:=by kernel_rfl
theorem ZLF:((Rows.fnPlacesAfterRow.loopsOut == Tryz.f8.resultTypes.toList.any (Tryz.prog.loopsFrom ·)))=true:=by kernel_rfl
theorem ZLG:((Rows.fnPlacesAfterRow.plainKeys == Tryz.prog.plainKeys))=true:=by kernel_rfl
theorem ZLH:(Rows.fnPlacesAfterRow.shortTexts.isNone)=true:=by kernel_rfl
theorem ZLI:(Tryz.prog.stopsHeard)=true:=by kernel_rfl
theorem ZLJ:(Tryz.prog.mayEnter)=true:=by kernel_rfl
theorem ZLK:((Rows.fnPlacesAfterRow.lifted == Tryz.prog.liftsFinal))=true:=by kernel_rfl
theorem ZLL:((Tryz.prog.make == some Rows.fnPlacesAfterRow.make))=true:=by kernel_rfl
theorem ZLM:((Rows.fnPlacesAfterRow.kinds == (if Rows.fnPlacesAfterRow.domain.isEmpty then [] else Tryz.f8.params.toList.map fun t=>match Tryz.prog.underlying t with | some (.int k)=>some k | _=>none)))=true:=by kernel_rfl
theorem ZLN:((Rows.fnPlacesAfterRow.pinned == Rows.fnPlacesAfterRow.pinnedBy))=true:=by kernel_rfl
theorem ZLO:((Rows.fnPlacesAfterRow.veiled == (Tryz.f8.params.toList++Rows.fnPlacesAfterSpec.plain.varTypes Tryz.prog++Tryz.f8.resultTypes.toList).any (Tryz.prog.veiledRec ·)))=true:=by kernel_rfl
theorem ZLP:(Rows.fnPlacesAfterRow.veiledFits Tryz.prog Tryz.f8.params.toList (Tryz.f8.params.toList++Rows.fnPlacesAfterSpec.plain.varTypes Tryz.prog++Tryz.f8.resultTypes.toList))=true:=by kernel_rfl
theorem ZKn {a b:Bool} (h1:a=true) (h2:b=true):(a&&b)=true:=by rw [h1,h2];rfl
theorem ZLf:joinedFacts Tryz.prog 8 Tryz.f8 Rows.fnPlacesAfterSpec Rows.fnPlacesAfterRow=true:=by
 unfold joinedFacts
 exact ZKn (ZKn (ZKn (ZKn (ZKn (ZKn (ZKn (ZKn (ZKn (ZKn (ZKn (ZKn (ZKn (ZKn (ZKn (ZKn (ZKn (ZKn (ZKn (ZKn (ZKn (ZKn (ZKn (ZKn (ZKn (ZKn (ZKn (ZKn (ZKn (ZKn (ZKn (ZLW) ZLX) ZLY) ZLZ) ZL0) ZL1) ZL2) ZL3) ZL4) ZL5) ZLu) ZLv) ZLw) ZLx) ZLy) ZLz) ZLA) ZLB) ZLC) ZLD) ZLE) ZLF) ZLG) ZLH) ZLI) ZLJ) ZLK) ZLL) ZLM) ZLN) ZLO) ZLP
end Go.Proofs.YtnnbgbgapogckaaGreatDoor
