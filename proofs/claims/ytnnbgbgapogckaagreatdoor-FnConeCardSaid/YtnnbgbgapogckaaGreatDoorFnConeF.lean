/-
  FnCone: what the row says of the program, fact by fact.
-/
import Derived.Test.YtnnbgbgapogckaaGreatDoorRows
import Derived.Test.YtnnbgbgapogckaaGreatDoorChecked
import Derived.KernelRfl
import Derived.JoinedOf
namespace Go.Proofs.YtnnbgbgapogckaaGreatDoor
open Go
set_option maxRecDepth 100000
theorem ZJD:(Rows.fnConeRow.wf (OpenSpec.ofChange Rows.fnConeSpec))=true:=by kernel_rfl
theorem ZJE:(laidOutB Tryz.prog)=true:=by kernel_rfl
theorem ZJF:(mapsRowed Tryz.prog)=true:=by kernel_rfl
theorem ZJG:(Tryz.f5.params.all (Tryz.prog.readableRec ·))=true:=by kernel_rfl
theorem ZJH:(namedTie Tryz.prog Rows.fnConeRow.named Rows.fnConeSpec.vars)=true:=by kernel_rfl
theorem ZJI:((Rows.fnConeRow.stops == []))=true:=by kernel_rfl
theorem ZJJ:((Tryz.prog.stops == []))=true:=by kernel_rfl
theorem ZJK:((Rows.fnConeRow.knobs == []))=true:=by kernel_rfl
theorem ZJL:((Tryz.prog.stopKnobs == []))=true:=by kernel_rfl
theorem ZJM:((Rows.fnConeRow.inPlace == Tryz.prog.inPlace 5))=true:=by kernel_rfl
theorem ZI5:((Rows.fnConeRow.unfollowed == Tryz.prog.unfollowed 5))=true:=by kernel_rfl
theorem ZI6:((Rows.fnConeRow.recurses == Tryz.prog.recurses 5))=true:=by kernel_rfl
theorem ZI7:((Rows.fnConeRow.named == Tryz.prog.varsNamed 5))=true:=by kernel_rfl
theorem ZI8:((Rows.fnConeRow.maps == (Tryz.f5.params.toList++Rows.fnConeSpec.plain.varTypes Tryz.prog).any (Tryz.prog.mapsRec ·)))=true:=by kernel_rfl
theorem ZI9:((Rows.fnConeRow.ifaces == (Tryz.f5.params.toList++Rows.fnConeSpec.plain.varTypes Tryz.prog).any (Tryz.prog.ifacesRec ·)))=true:=by kernel_rfl
theorem ZJa:((Rows.fnConeRow.mapsOut == Tryz.prog.mapsAmong Tryz.f5.resultTypes.toList))=true:=by kernel_rfl
theorem ZJb:((Rows.fnConeRow.loops == (Tryz.f5.params.toList++Rows.fnConeSpec.plain.varTypes Tryz.prog).any (Tryz.prog.loopsFrom ·)))=true:=by kernel_rfl
theorem ZJc:((Rows.fnConeRow.wideKeys == (Tryz.f5.params.toList++Rows.fnConeSpec.plain.varTypes Tryz.prog++Tryz.f5.resultTypes.toList).any (Tryz.prog.wideKeysFrom ·)))=true:=by kernel_rfl
theorem ZJd:(Rows.fnConeSpec.vars.all (Tryz.prog.varReadable ·))=true:=by kernel_rfl
theorem ZJe:(Tryz.f5.resultTypes.all (fun t=>Tryz.prog.readableRec t&&decide (t<Tryz.prog.types.size)))=true:=by kernel_rfl
theorem ZJf:((Rows.fnConeRow.ifacesOut == Tryz.f5.resultTypes.toList.any (Tryz.prog.ifacesRec ·)))=true:=by kernel_rfl
theorem ZJg:((Rows.fnConeRow.loopsOut == Tryz.f5.resultTypes.toList.any (Tryz.prog.loopsFrom ·)))=true:=by kernel_rfl
theorem ZJh:((Rows.fnConeRow.plainKeys == Tryz.prog.plainKeys))=true:=by kernel_rfl
theorem ZJi:(Rows.fnConeRow.shortTexts.isNone)=true:=by kernel_rfl
theorem ZJj:(Tryz.prog.stopsHeard)=true:=by kernel_rfl
theorem ZJk:(Tryz.prog.mayEnter)=true:=by kernel_rfl
theorem ZJl:((Rows.fnConeRow.lifted == Tryz.prog.liftsFinal))=true:=by kernel_rfl
theorem ZJm:((Tryz.prog.make == some Rows.fnConeRow.make))=true:=by kernel_rfl
theorem ZJn:((Rows.fnConeRow.kinds == (if Rows.fnConeRow.domain.isEmpty then [] else Tryz.f5.params.toList.map fun t=>match Tryz.prog.underlying t with | some (.int k)=>some k | _=>none)))=true:=by kernel_rfl
theorem ZJo:((Rows.fnConeRow.pinned == Rows.fnConeRow.pinnedBy))=true:=by kernel_rfl
theorem ZJp:((Rows.fnConeRow.veiled == (Tryz.f5.params.toList++Rows.fnConeSpec.plain.varTypes Tryz.prog++Tryz.f5.resultTypes.toList).any (Tryz.prog.veiledRec ·)))=true:=by kernel_rfl
theorem ZJq:(Rows.fnConeRow.veiledFits Tryz.prog Tryz.f5.params.toList (Tryz.f5.params.toList++Rows.fnConeSpec.plain.varTypes Tryz.prog++Tryz.f5.resultTypes.toList))=true:=by kernel_rfl
theorem ZGl {a b:Bool} (h1:a=true) (h2:b=true):(a&&b)=true:=by rw [h1,h2];rfl
theorem ZIv:joinedFacts Tryz.prog 5 Tryz.f5 Rows.fnConeSpec Rows.fnConeRow=true:=by
 unfold joinedFacts
 exact ZGl (ZGl (ZGl (ZGl (ZGl (ZGl (ZGl (ZGl (ZGl (ZGl (ZGl (ZGl (ZGl (ZGl (ZGl (ZGl (ZGl (ZGl (ZGl (ZGl (ZGl (ZGl (ZGl (ZGl (ZGl (ZGl (ZGl (ZGl (ZGl (ZGl (ZGl (ZJD) ZJE) ZJF) ZJG) ZJH) ZJI) ZJJ) ZJK) ZJL) ZJM) ZI5) ZI6) ZI7) ZI8) ZI9) ZJa) ZJb) ZJc) ZJd) ZJe) ZJf) ZJg) ZJh) ZJi) ZJj) ZJk) ZJl) ZJm) ZJn) ZJo) ZJp) ZJq
end Go.Proofs.YtnnbgbgapogckaaGreatDoor
