/-
  FnEditList: what the row says of the program, fact by fact.
-/
import Derived.Test.YtnnbgbgapogckaaGreatDoorRows
import Derived.Test.YtnnbgbgapogckaaGreatDoorChecked
import Derived.KernelRfl
import Derived.JoinedOf
namespace Go.Proofs.YtnnbgbgapogckaaGreatDoor
open Go
set_option maxRecDepth 100000
theorem ZDr:(Rows.fnEditListRow.wf (OpenSpec.ofChange Rows.fnEditListSpec))=true:=by kernel_rfl
theorem ZDs:(laidOutB Tryz.prog)=true:=by kernel_rfl
theorem ZDt:(mapsRowed Tryz.prog)=true:=by kernel_rfl
theorem ZDu:(Tryz.f7.params.all (Tryz.prog.readableRec ·))=true:=by kernel_rfl
theorem ZDv:(namedTie Tryz.prog Rows.fnEditListRow.named Rows.fnEditListSpec.vars)=true:=by kernel_rfl
theorem ZDw:((Rows.fnEditListRow.stops == []))=true:=by kernel_rfl
theorem ZDx:((Tryz.prog.stops == []))=true:=by kernel_rfl
theorem ZDy:((Rows.fnEditListRow.knobs == []))=true:=by kernel_rfl
theorem ZDz:((Tryz.prog.stopKnobs == []))=true:=by kernel_rfl
theorem ZDA:((Rows.fnEditListRow.inPlace == Tryz.prog.inPlace 7))=true:=by kernel_rfl
theorem ZC0:((Rows.fnEditListRow.unfollowed == Tryz.prog.unfollowed 7))=true:=by kernel_rfl
theorem ZC1:((Rows.fnEditListRow.recurses == Tryz.prog.recurses 7))=true:=by kernel_rfl
theorem ZC2:((Rows.fnEditListRow.named == Tryz.prog.varsNamed 7))=true:=by kernel_rfl
theorem ZC3:((Rows.fnEditListRow.maps == (Tryz.f7.params.toList++Rows.fnEditListSpec.plain.varTypes Tryz.prog).any (Tryz.prog.mapsRec ·)))=true:=by kernel_rfl
theorem ZC4:((Rows.fnEditListRow.ifaces == (Tryz.f7.params.toList++Rows.fnEditListSpec.plain.varTypes Tryz.prog).any (Tryz.prog.ifacesRec ·)))=true:=by kernel_rfl
theorem ZC5:((Rows.fnEditListRow.mapsOut == Tryz.prog.mapsAmong Tryz.f7.resultTypes.toList))=true:=by kernel_rfl
theorem ZC6:((Rows.fnEditListRow.loops == (Tryz.f7.params.toList++Rows.fnEditListSpec.plain.varTypes Tryz.prog).any (Tryz.prog.loopsFrom ·)))=true:=by kernel_rfl
theorem ZC7:((Rows.fnEditListRow.wideKeys == (Tryz.f7.params.toList++Rows.fnEditListSpec.plain.varTypes Tryz.prog++Tryz.f7.resultTypes.toList).any (Tryz.prog.wideKeysFrom ·)))=true:=by kernel_rfl
theorem ZC8:(Rows.fnEditListSpec.vars.all (Tryz.prog.varReadable ·))=true:=by kernel_rfl
theorem ZC9:(Tryz.f7.resultTypes.all (fun t=>Tryz.prog.readableRec t&&decide (t<Tryz.prog.types.size)))=true:=by kernel_rfl
theorem ZDa:((Rows.fnEditListRow.ifacesOut == Tryz.f7.resultTypes.toList.any (Tryz.prog.ifacesRec ·)))=true:=by kernel_rfl
theorem ZDb:((Rows.fnEditListRow.loopsOut == Tryz.f7.resultTypes.toList.any (Tryz.prog.loopsFrom ·)))=true:=by kernel_rfl
theorem ZDc:((Rows.fnEditListRow.plainKeys == Tryz.prog.plainKeys))=true:=by kernel_rfl
theorem ZDd:(Rows.fnEditListRow.shortTexts.isNone)=true:=by kernel_rfl
theorem ZDe:(Tryz.prog.stopsHeard)=true:=by kernel_rfl
theorem ZDf:(Tryz.prog.mayEnter)=true:=by kernel_rfl
theorem ZDg:((Rows.fnEditListRow.lifted == Tryz.prog.liftsFinal))=true:=by kernel_rfl
theorem ZDh:((Tryz.prog.make == some Rows.fnEditListRow.make))=true:=by kernel_rfl
theorem ZDi:((Rows.fnEditListRow.kinds == (if Rows.fnEditListRow.domain.isEmpty then [] else Tryz.f7.params.toList.map fun t=>match Tryz.prog.underlying t with | some (.int k)=>some k | _=>none)))=true:=by kernel_rfl
theorem ZDj:((Rows.fnEditListRow.pinned == Rows.fnEditListRow.pinnedBy))=true:=by kernel_rfl
theorem ZDk:((Rows.fnEditListRow.veiled == (Tryz.f7.params.toList++Rows.fnEditListSpec.plain.varTypes Tryz.prog++Tryz.f7.resultTypes.toList).any (Tryz.prog.veiledRec ·)))=true:=by kernel_rfl
theorem ZDl:(Rows.fnEditListRow.veiledFits Tryz.prog Tryz.f7.params.toList (Tryz.f7.params.toList++Rows.fnEditListSpec.plain.varTypes Tryz.prog++Tryz.f7.resultTypes.toList))=true:=by kernel_rfl
theorem ZCx {a b:Bool} (h1:a=true) (h2:b=true):(a&&b)=true:=by rw [h1,h2];rfl
theorem ZCR:joinedFacts Tryz.prog 7 Tryz.f7 Rows.fnEditListSpec Rows.fnEditListRow=true:=by
 unfold joinedFacts
 exact ZCx (ZCx (ZCx (ZCx (ZCx (ZCx (ZCx (ZCx (ZCx (ZCx (ZCx (ZCx (ZCx (ZCx (ZCx (ZCx (ZCx (ZCx (ZCx (ZCx (ZCx (ZCx (ZCx (ZCx (ZCx (ZCx (ZCx (ZCx (ZCx (ZCx (ZCx (ZDr) ZDs) ZDt) ZDu) ZDv) ZDw) ZDx) ZDy) ZDz) ZDA) ZC0) ZC1) ZC2) ZC3) ZC4) ZC5) ZC6) ZC7) ZC8) ZC9) ZDa) ZDb) ZDc) ZDd) ZDe) ZDf) ZDg) ZDh) ZDi) ZDj) ZDk) ZDl
end Go.Proofs.YtnnbgbgapogckaaGreatDoor
