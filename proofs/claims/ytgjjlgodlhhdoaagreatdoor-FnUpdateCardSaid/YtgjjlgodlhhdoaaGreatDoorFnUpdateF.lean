/-
  FnUpdate: what the row says of the program, fact by fact.
-/
import Derived.Test.YtgjjlgodlhhdoaaGreatDoorRows
import Derived.Test.YtgjjlgodlhhdoaaGreatDoorChecked
import Derived.KernelRfl
import Derived.JoinedOf
namespace Go.Proofs.YtgjjlgodlhhdoaaGreatDoor
open Go
set_option maxRecDepth 100000
theorem ZDd:(Rows.fnUpdateRow.wf (OpenSpec.ofChange Rows.fnUpdateSpec))=true:=by kernel_rfl
theorem ZDe:(laidOutB Tryz.prog)=true:=by kernel_rfl
theorem ZDf:(mapsRowed Tryz.prog)=true:=by kernel_rfl
theorem ZDg:(Tryz.f5.params.all (Tryz.prog.readableRec ·))=true:=by kernel_rfl
theorem ZDh:(namedTie Tryz.prog Rows.fnUpdateRow.named Rows.fnUpdateSpec.vars)=true:=by kernel_rfl
theorem ZDi:((Rows.fnUpdateRow.stops == []))=true:=by kernel_rfl
theorem ZDj:((Tryz.prog.stops == []))=true:=by kernel_rfl
theorem ZDk:((Rows.fnUpdateRow.knobs == []))=true:=by kernel_rfl
theorem ZDl:((Tryz.prog.stopKnobs == []))=true:=by kernel_rfl
theorem ZDm:((Rows.fnUpdateRow.inPlace == Tryz.prog.inPlace 5))=true:=by kernel_rfl
theorem ZCM:((Rows.fnUpdateRow.unfollowed == Tryz.prog.unfollowed 5))=true:=by kernel_rfl
theorem ZCN:((Rows.fnUpdateRow.recurses == Tryz.prog.recurses 5))=true:=by kernel_rfl
theorem ZCO:((Rows.fnUpdateRow.named == Tryz.prog.varsNamed 5))=true:=by kernel_rfl
theorem ZCP:((Rows.fnUpdateRow.maps == (Tryz.f5.params.toList++Rows.fnUpdateSpec.plain.varTypes Tryz.prog).any (Tryz.prog.mapsRec ·)))=true:=by kernel_rfl
theorem ZCQ:((Rows.fnUpdateRow.ifaces == (Tryz.f5.params.toList++Rows.fnUpdateSpec.plain.varTypes Tryz.prog).any (Tryz.prog.ifacesRec ·)))=true:=by kernel_rfl
theorem ZCR:((Rows.fnUpdateRow.mapsOut == Tryz.prog.mapsAmong Tryz.f5.resultTypes.toList))=true:=by kernel_rfl
theorem ZCS:((Rows.fnUpdateRow.loops == (Tryz.f5.params.toList++Rows.fnUpdateSpec.plain.varTypes Tryz.prog).any (Tryz.prog.loopsFrom ·)))=true:=by kernel_rfl
theorem ZCT:((Rows.fnUpdateRow.wideKeys == (Tryz.f5.params.toList++Rows.fnUpdateSpec.plain.varTypes Tryz.prog++Tryz.f5.resultTypes.toList).any (Tryz.prog.wideKeysFrom ·)))=true:=by kernel_rfl
theorem ZCU:(Rows.fnUpdateSpec.vars.all (Tryz.prog.varReadable ·))=true:=by kernel_rfl
theorem ZCV:(Tryz.f5.resultTypes.all (λt=>Tryz.prog.readableRec t&&decide (t<Tryz.prog.types.size)))=true:=by kernel_rfl
theorem ZCW:((Rows.fnUpdateRow.ifacesOut == Tryz.f5.resultTypes.toList.any (Tryz.prog.ifacesRec ·)))=true:=by kernel_rfl
theorem ZCX:((Rows.fnUpdateRow.loopsOut == Tryz.f5.resultTypes.toList.any (Tryz.prog.loopsFrom ·)))=true:=by kernel_rfl
theorem ZCY:((Rows.fnUpdateRow.plainKeys == Tryz.prog.plainKeys))=true:=by kernel_rfl
theorem ZCZ:(Rows.fnUpdateRow.shortTexts.isNone)=true:=by kernel_rfl
theorem ZC0:(Tryz.prog.stopsHeard)=true:=by kernel_rfl
theorem ZC1:(Tryz.prog.mayEnter)=true:=by kernel_rfl
theorem ZC2:((Rows.fnUpdateRow.lifted == Tryz.prog.liftsFinal))=true:=by kernel_rfl
theorem ZC3:((Tryz.prog.make == some Rows.fnUpdateRow.make))=true:=by kernel_rfl
theorem ZC4:((Rows.fnUpdateRow.kinds == (if Rows.fnUpdateRow.domain.isEmpty then [] else Tryz.f5.params.toList.map λt=>match Tryz.prog.underlying t with | some (.int k)=>some k | _=>none)))=true:=by kernel_rfl
theorem ZC5:((Rows.fnUpdateRow.pinned == Rows.fnUpdateRow.pinnedBy))=true:=by kernel_rfl
theorem ZC6:((Rows.fnUpdateRow.veiled == (Tryz.f5.params.toList++Rows.fnUpdateSpec.plain.varTypes Tryz.prog++Tryz.f5.resultTypes.toList).any (Tryz.prog.veiledRec ·)))=true:=by kernel_rfl
theorem ZC7:(Rows.fnUpdateRow.veiledFits Tryz.prog Tryz.f5.params.toList (Tryz.f5.params.toList++Rows.fnUpdateSpec.plain.varTypes Tryz.prog++Tryz.f5.resultTypes.toList))=true:=by kernel_rfl
theorem ZBV {a b:Bool} (h1:a=true) (h2:b=true):(a&&b)=true:=by rw[h1,h2];rfl
theorem ZCv:joinedFacts Tryz.prog 5 Tryz.f5 Rows.fnUpdateSpec Rows.fnUpdateRow=true:=by
 unfold joinedFacts;exact ZBV (ZBV (ZBV (ZBV (ZBV (ZBV (ZBV (ZBV (ZBV (ZBV (ZBV (ZBV (ZBV (ZBV (ZBV (ZBV (ZBV (ZBV (ZBV (ZBV (ZBV (ZBV (ZBV (ZBV (ZBV (ZBV (ZBV (ZBV (ZBV (ZBV (ZBV (ZDd) ZDe) ZDf) ZDg) ZDh) ZDi) ZDj) ZDk) ZDl) ZDm) ZCM) ZCN) ZCO) ZCP) ZCQ) ZCR) ZCS) ZCT) ZCU) ZCV) ZCW) ZCX) ZCY) ZCZ) ZC0) ZC1) ZC2) ZC3) ZC4) ZC5) ZC6) ZC7
end Go.Proofs.YtgjjlgodlhhdoaaGreatDoor
