/-
  FnSetupSources: what the row says of the program, fact by fact.
-/
import Derived.Test.YtmihfdfjccociaaGreatDoorRows
import Derived.Test.YtmihfdfjccociaaGreatDoorChecked
import Derived.KernelRfl
import Derived.JoinedOf
namespace Go.Proofs.YtmihfdfjccociaaGreatDoor
open Go
set_option maxRecDepth 100000
theorem ZhC:(Rows.fnSetupSourcesRow.wf (OpenSpec.ofChange Rows.fnSetupSourcesSpec))=true:=by kernel_rfl
theorem ZhD:(laidOutB Tryz.prog)=true:=by kernel_rfl
theorem ZhE:(mapsRowed Tryz.prog)=true:=by kernel_rfl
theorem ZhF:(Tryz.f3.params.all (Tryz.prog.readableRec ·))=true:=by kernel_rfl
theorem ZhG:(namedTie Tryz.prog Rows.fnSetupSourcesRow.named Rows.fnSetupSourcesSpec.vars)=true:=by kernel_rfl
theorem ZhH:((Rows.fnSetupSourcesRow.stops == []))=true:=by kernel_rfl
theorem ZhI:((Tryz.prog.stops == []))=true:=by kernel_rfl
theorem ZhJ:((Rows.fnSetupSourcesRow.knobs == []))=true:=by kernel_rfl
theorem ZhK:((Tryz.prog.stopKnobs == []))=true:=by kernel_rfl
theorem ZhL:((Rows.fnSetupSourcesRow.inPlace == Tryz.prog.inPlace 3))=true:=by kernel_rfl
theorem ZgC:((Rows.fnSetupSourcesRow.unfollowed == Tryz.prog.unfollowed 3))=true:=by kernel_rfl
theorem ZgD:((Rows.fnSetupSourcesRow.recurses == Tryz.prog.recurses 3))=true:=by kernel_rfl
theorem ZgE:((Rows.fnSetupSourcesRow.named == Tryz.prog.varsNamed 3))=true:=by kernel_rfl
theorem ZgF:((Rows.fnSetupSourcesRow.maps == (Tryz.f3.params.toList++Rows.fnSetupSourcesSpec.plain.varTypes Tryz.prog).any (Tryz.prog.mapsRec ·)))=true:=by kernel_rfl
theorem ZgG:((Rows.fnSetupSourcesRow.ifaces == (Tryz.f3.params.toList++Rows.fnSetupSourcesSpec.plain.varTypes Tryz.prog).any (Tryz.prog.ifacesRec ·)))=true:=by kernel_rfl
theorem ZgH:((Rows.fnSetupSourcesRow.mapsOut == Tryz.prog.mapsAmong Tryz.f3.resultTypes.toList))=true:=by kernel_rfl
theorem ZgI:((Rows.fnSetupSourcesRow.loops == (Tryz.f3.params.toList++Rows.fnSetupSourcesSpec.plain.varTypes Tryz.prog).any (Tryz.prog.loopsFrom ·)))=true:=by kernel_rfl
theorem ZgJ:((Rows.fnSetupSourcesRow.wideKeys == (Tryz.f3.params.toList++Rows.fnSetupSourcesSpec.plain.varTypes Tryz.prog++Tryz.f3.resultTypes.toList).any (Tryz.prog.wideKeysFrom ·)))=true:=by kernel_rfl
theorem ZgK:(Rows.fnSetupSourcesSpec.vars.all (Tryz.prog.varReadable ·))=true:=by kernel_rfl
theorem ZgL:(Tryz.f3.resultTypes.all (λt=>Tryz.prog.readableRec t&&decide (t<Tryz.prog.types.size)))=true:=by kernel_rfl
theorem ZgM:((Rows.fnSetupSourcesRow.ifacesOut == Tryz.f3.resultTypes.toList.any (Tryz.prog.ifacesRec ·)))=true:=by kernel_rfl
theorem ZgN:((Rows.fnSetupSourcesRow.loopsOut == Tryz.f3.resultTypes.toList.any (Tryz.prog.loopsFrom ·)))=true:=by kernel_rfl
theorem ZgO:((Rows.fnSetupSourcesRow.plainKeys == Tryz.prog.plainKeys))=true:=by kernel_rfl
theorem ZgP:(Rows.fnSetupSourcesRow.shortTexts.isNone)=true:=by kernel_rfl
theorem ZgQ:(Tryz.prog.stopsHeard)=true:=by kernel_rfl
theorem ZgR:(Tryz.prog.mayEnter)=true:=by kernel_rfl
theorem ZgS:((Rows.fnSetupSourcesRow.lifted == Tryz.prog.liftsFinal))=true:=by kernel_rfl
theorem ZgT:((Tryz.prog.make == some Rows.fnSetupSourcesRow.make))=true:=by kernel_rfl
theorem ZgU:((Rows.fnSetupSourcesRow.kinds == (if Rows.fnSetupSourcesRow.domain.isEmpty then [] else Tryz.f3.params.toList.map λt=>match Tryz.prog.underlying t with | some (.int k)=>some k | _=>none)))=true:=by kernel_rfl
theorem ZgV:((Rows.fnSetupSourcesRow.pinned == Rows.fnSetupSourcesRow.pinnedBy))=true:=by kernel_rfl
theorem ZgW:((Rows.fnSetupSourcesRow.veiled == (Tryz.f3.params.toList++Rows.fnSetupSourcesSpec.plain.varTypes Tryz.prog++Tryz.f3.resultTypes.toList).any (Tryz.prog.veiledRec ·)))=true:=by kernel_rfl
theorem ZgX:(Rows.fnSetupSourcesRow.veiledFits Tryz.prog Tryz.f3.params.toList (Tryz.f3.params.toList++Rows.fnSetupSourcesSpec.plain.varTypes Tryz.prog++Tryz.f3.resultTypes.toList))=true:=by kernel_rfl
theorem Zu {a b:Bool} (h1:a=true) (h2:b=true):(a&&b)=true:=by rw[h1,h2];rfl
theorem Ze3:joinedFacts Tryz.prog 3 Tryz.f3 Rows.fnSetupSourcesSpec Rows.fnSetupSourcesRow=true:=by
 unfold joinedFacts;exact Zu (Zu (Zu (Zu (Zu (Zu (Zu (Zu (Zu (Zu (Zu (Zu (Zu (Zu (Zu (Zu (Zu (Zu (Zu (Zu (Zu (Zu (Zu (Zu (Zu (Zu (Zu (Zu (Zu (Zu (Zu (ZhC) ZhD) ZhE) ZhF) ZhG) ZhH) ZhI) ZhJ) ZhK) ZhL) ZgC) ZgD) ZgE) ZgF) ZgG) ZgH) ZgI) ZgJ) ZgK) ZgL) ZgM) ZgN) ZgO) ZgP) ZgQ) ZgR) ZgS) ZgT) ZgU) ZgV) ZgW) ZgX
end Go.Proofs.YtmihfdfjccociaaGreatDoor
