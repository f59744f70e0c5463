/-
  FnExactUpdateTiming: what the row says of the program, fact by fact.
-/
import Derived.Test.YtclfgjepbamnlaaGreatDoorRows
import Derived.Test.YtclfgjepbamnlaaGreatDoorChecked
import Derived.KernelRfl
import Derived.JoinedOf
namespace Go.Proofs.YtclfgjepbamnlaaGreatDoor
open Go
set_option maxRecDepth 100000
theorem ZFc:(Rows.fnExactUpdateTimingRow.wf (OpenSpec.ofChange Rows.fnExactUpdateTimingSpec))=true:=by kernel_rfl
theorem ZFd:(laidOutB Tryz.prog)=true:=by kernel_rfl
theorem ZFe:(mapsRowed Tryz.prog)=true:=by kernel_rfl
theorem ZFf:(Tryz.f4.params.all (Tryz.prog.readableRec ·))=true:=by kernel_rfl
theorem ZFg:(namedTie Tryz.prog Rows.fnExactUpdateTimingRow.named Rows.fnExactUpdateTimingSpec.vars)=true:=by kernel_rfl
theorem ZFh:((Rows.fnExactUpdateTimingRow.stops == []))=true:=by kernel_rfl
theorem ZFi:((Tryz.prog.stops == []))=true:=by kernel_rfl
theorem ZFj:((Rows.fnExactUpdateTimingRow.knobs == []))=true:=by kernel_rfl
theorem ZFk:((Tryz.prog.stopKnobs == []))=true:=by kernel_rfl
theorem ZFl:((Rows.fnExactUpdateTimingRow.inPlace == Tryz.prog.inPlace 4))=true:=by kernel_rfl
theorem ZEO:((Rows.fnExactUpdateTimingRow.unfollowed == Tryz.prog.unfollowed 4))=true:=by kernel_rfl
theorem ZEP:((Rows.fnExactUpdateTimingRow.recurses == Tryz.prog.recurses 4))=true:=by kernel_rfl
theorem ZEQ:((Rows.fnExactUpdateTimingRow.named == Tryz.prog.varsNamed 4))=true:=by kernel_rfl
theorem ZER:((Rows.fnExactUpdateTimingRow.maps == (Tryz.f4.params.toList++Rows.fnExactUpdateTimingSpec.plain.varTypes Tryz.prog).any (Tryz.prog.mapsRec ·)))=true:=by kernel_rfl
theorem ZES:((Rows.fnExactUpdateTimingRow.ifaces == (Tryz.f4.params.toList++Rows.fnExactUpdateTimingSpec.plain.varTypes Tryz.prog).any (Tryz.prog.ifacesRec ·)))=true:=by kernel_rfl
theorem ZET:((Rows.fnExactUpdateTimingRow.mapsOut == Tryz.prog.mapsAmong Tryz.f4.resultTypes.toList))=true:=by kernel_rfl
theorem ZEU:((Rows.fnExactUpdateTimingRow.loops == (Tryz.f4.params.toList++Rows.fnExactUpdateTimingSpec.plain.varTypes Tryz.prog).any (Tryz.prog.loopsFrom ·)))=true:=by kernel_rfl
theorem ZEV:((Rows.fnExactUpdateTimingRow.wideKeys == (Tryz.f4.params.toList++Rows.fnExactUpdateTimingSpec.plain.varTypes Tryz.prog++Tryz.f4.resultTypes.toList).any (Tryz.prog.wideKeysFrom ·)))=true:=by kernel_rfl
theorem ZEW:(Rows.fnExactUpdateTimingSpec.vars.all (Tryz.prog.varReadable ·))=true:=by kernel_rfl
theorem ZEX:(Tryz.f4.resultTypes.all (fun t=>Tryz.prog.readableRec t&&decide (t<Tryz.prog.types.size)))=true:=by kernel_rfl
theorem ZEY:((Rows.fnExactUpdateTimingRow.ifacesOut == Tryz.f4.resultTypes.toList.any (Tryz.prog.ifacesRec ·)))=true:=by kernel_rfl
theorem ZEZ:((Rows.fnExactUpdateTimingRow.loopsOut == Tryz.f4.resultTypes.toList.any (Tryz.prog.loopsFrom ·)))=true:=by kernel_rfl
theorem ZE0:((Rows.fnExactUpdateTimingRow.plainKeys == Tryz.prog.plainKeys))=true:=by kernel_rfl
theorem ZE1:(Rows.fnExactUpdateTimingRow.shortTexts.isNone)=true:=by kernel_rfl
theorem ZE2:(Tryz.prog.stopsHeard)=true:=by kernel_rfl
theorem ZE3:(Tryz.prog.mayEnter)=true:=by kernel_rfl
theorem ZE4:((Rows.fnExactUpdateTimingRow.lifted == Tryz.prog.liftsFinal))=true:=by kernel_rfl
theorem ZE5:((Tryz.prog.make == some Rows.fnExactUpdateTimingRow.make))=true:=by kernel_rfl
theorem ZE6:((Rows.fnExactUpdateTimingRow.kinds == (if Rows.fnExactUpdateTimingRow.domain.isEmpty then [] else Tryz.f4.params.toList.map fun t=>match Tryz.prog.underlying t with | some (.int k)=>some k | _=>none)))=true:=by kernel_rfl
theorem ZE7:((Rows.fnExactUpdateTimingRow.pinned == Rows.fnExactUpdateTimingRow.pinnedBy))=true:=by kernel_rfl
theorem ZE8:((Rows.fnExactUpdateTimingRow.veiled == (Tryz.f4.params.toList++Rows.fnExactUpdateTimingSpec.plain.varTypes Tryz.prog++Tryz.f4.resultTypes.toList).any (Tryz.prog.veiledRec ·)))=true:=by kernel_rfl
theorem ZE9:(Rows.fnExactUpdateTimingRow.veiledFits Tryz.prog Tryz.f4.params.toList (Tryz.f4.params.toList++Rows.fnExactUpdateTimingSpec.plain.varTypes Tryz.prog++Tryz.f4.resultTypes.toList))=true:=by kernel_rfl
theorem ZD4 {a b:Bool} (h1:a=true) (h2:b=true):(a&&b)=true:=by rw [h1,h2];rfl
theorem ZEC:joinedFacts Tryz.prog 4 Tryz.f4 Rows.fnExactUpdateTimingSpec Rows.fnExactUpdateTimingRow=true:=by
 unfold joinedFacts
 exact ZD4 (ZD4 (ZD4 (ZD4 (ZD4 (ZD4 (ZD4 (ZD4 (ZD4 (ZD4 (ZD4 (ZD4 (ZD4 (ZD4 (ZD4 (ZD4 (ZD4 (ZD4 (ZD4 (ZD4 (ZD4 (ZD4 (ZD4 (ZD4 (ZD4 (ZD4 (ZD4 (ZD4 (ZD4 (ZD4 (ZD4 (ZFc) ZFd) ZFe) ZFf) ZFg) ZFh) ZFi) ZFj) ZFk) ZFl) ZEO) ZEP) ZEQ) ZER) ZES) ZET) ZEU) ZEV) ZEW) ZEX) ZEY) ZEZ) ZE0) ZE1) ZE2) ZE3) ZE4) ZE5) ZE6) ZE7) ZE8) ZE9
end Go.Proofs.YtclfgjepbamnlaaGreatDoor
