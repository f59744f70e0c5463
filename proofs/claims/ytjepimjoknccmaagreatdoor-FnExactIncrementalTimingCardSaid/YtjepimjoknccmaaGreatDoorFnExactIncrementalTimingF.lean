/-
  FnExactIncrementalTiming: what the row says of the program, fact by fact.
-/
import Derived.Test.YtjepimjoknccmaaGreatDoorRows
import Derived.Test.YtjepimjoknccmaaGreatDoorChecked
import Derived.KernelRfl
import Derived.JoinedOf
namespace Go.Proofs.YtjepimjoknccmaaGreatDoor
open Go
set_option maxRecDepth 100000
theorem Zir:(Rows.fnExactIncrementalTimingRow.wf (OpenSpec.ofChange Rows.fnExactIncrementalTimingSpec))=true:=by kernel_rfl
theorem Zis:(laidOutB Tryz.prog)=true:=by kernel_rfl
theorem Zit:(mapsRowed Tryz.prog)=true:=by kernel_rfl
theorem Ziu:(Tryz.f3.params.all (Tryz.prog.readableRec ·))=true:=by kernel_rfl
theorem Ziv:(namedTie Tryz.prog Rows.fnExactIncrementalTimingRow.named Rows.fnExactIncrementalTimingSpec.vars)=true:=by kernel_rfl
theorem Ziw:((Rows.fnExactIncrementalTimingRow.stops == []))=true:=by kernel_rfl
theorem Zix:((Tryz.prog.stops == []))=true:=by kernel_rfl
theorem Ziy:((Rows.fnExactIncrementalTimingRow.knobs == []))=true:=by kernel_rfl
theorem Ziz:((Tryz.prog.stopKnobs == []))=true:=by kernel_rfl
theorem ZiA:((Rows.fnExactIncrementalTimingRow.inPlace == Tryz.prog.inPlace 3))=true:=by kernel_rfl
theorem Zhl:((Rows.fnExactIncrementalTimingRow.unfollowed == Tryz.prog.unfollowed 3))=true:=by kernel_rfl
theorem Zhm:((Rows.fnExactIncrementalTimingRow.recurses == Tryz.prog.recurses 3))=true:=by kernel_rfl
theorem Zhn:((Rows.fnExactIncrementalTimingRow.named == Tryz.prog.varsNamed 3))=true:=by kernel_rfl
theorem Zho:((Rows.fnExactIncrementalTimingRow.maps == (Tryz.f3.params.toList++Rows.fnExactIncrementalTimingSpec.plain.varTypes Tryz.prog).any (Tryz.prog.mapsRec ·)))=true:=by kernel_rfl
theorem Zhp:((Rows.fnExactIncrementalTimingRow.ifaces == (Tryz.f3.params.toList++Rows.fnExactIncrementalTimingSpec.plain.varTypes Tryz.prog).any (Tryz.prog.ifacesRec ·)))=true:=by kernel_rfl
theorem Zhq:((Rows.fnExactIncrementalTimingRow.mapsOut == Tryz.prog.mapsAmong Tryz.f3.resultTypes.toList))=true:=by kernel_rfl
theorem Zhr:((Rows.fnExactIncrementalTimingRow.loops == (Tryz.f3.params.toList++Rows.fnExactIncrementalTimingSpec.plain.varTypes Tryz.prog).any (Tryz.prog.loopsFrom ·)))=true:=by kernel_rfl
theorem Zhs:((Rows.fnExactIncrementalTimingRow.wideKeys == (Tryz.f3.params.toList++Rows.fnExactIncrementalTimingSpec.plain.varTypes Tryz.prog++Tryz.f3.resultTypes.toList).any (Tryz.prog.wideKeysFrom ·)))=true:=by kernel_rfl
theorem Zht:(Rows.fnExactIncrementalTimingSpec.vars.all (Tryz.prog.varReadable ·))=true:=by kernel_rfl
theorem Zhu:(Tryz.f3.resultTypes.all (λt=>Tryz.prog.readableRec t&&decide (t<Tryz.prog.types.size)))=true:=by kernel_rfl
theorem Zhv:((Rows.fnExactIncrementalTimingRow.ifacesOut == Tryz.f3.resultTypes.toList.any (Tryz.prog.ifacesRec ·)))=true:=by kernel_rfl
theorem Zhw:((Rows.fnExactIncrementalTimingRow.loopsOut == Tryz.f3.resultTypes.toList.any (Tryz.prog.loopsFrom ·)))=true:=by kernel_rfl
theorem Zhx:((Rows.fnExactIncrementalTimingRow.plainKeys == Tryz.prog.plainKeys))=true:=by kernel_rfl
theorem Zhy:(Rows.fnExactIncrementalTimingRow.shortTexts.isNone)=true:=by kernel_rfl
theorem Zhz:(Tryz.prog.stopsHeard)=true:=by kernel_rfl
theorem ZhA:(Tryz.prog.mayEnter)=true:=by kernel_rfl
theorem ZhB:((Rows.fnExactIncrementalTimingRow.lifted == Tryz.prog.liftsFinal))=true:=by kernel_rfl
theorem ZhC:((Tryz.prog.make == some Rows.fnExactIncrementalTimingRow.make))=true:=by kernel_rfl
theorem ZhD:((Rows.fnExactIncrementalTimingRow.kinds == (if Rows.fnExactIncrementalTimingRow.domain.isEmpty then [] else Tryz.f3.params.toList.map λt=>match Tryz.prog.underlying t with | some (.int k)=>some k | _=>none)))=true:=by kernel_rfl
theorem ZhE:((Rows.fnExactIncrementalTimingRow.pinned == Rows.fnExactIncrementalTimingRow.pinnedBy))=true:=by kernel_rfl
theorem ZhF:((Rows.fnExactIncrementalTimingRow.veiled == (Tryz.f3.params.toList++Rows.fnExactIncrementalTimingSpec.plain.varTypes Tryz.prog++Tryz.f3.resultTypes.toList).any (Tryz.prog.veiledRec ·)))=true:=by kernel_rfl
theorem ZhG:(Rows.fnExactIncrementalTimingRow.veiledFits Tryz.prog Tryz.f3.params.toList (Tryz.f3.params.toList++Rows.fnExactIncrementalTimingSpec.plain.varTypes Tryz.prog++Tryz.f3.resultTypes.toList))=true:=by kernel_rfl
theorem Zr {a b:Bool} (h1:a=true) (h2:b=true):(a&&b)=true:=by rw[h1,h2];rfl
theorem ZfS:joinedFacts Tryz.prog 3 Tryz.f3 Rows.fnExactIncrementalTimingSpec Rows.fnExactIncrementalTimingRow=true:=by
 unfold joinedFacts;exact Zr (Zr (Zr (Zr (Zr (Zr (Zr (Zr (Zr (Zr (Zr (Zr (Zr (Zr (Zr (Zr (Zr (Zr (Zr (Zr (Zr (Zr (Zr (Zr (Zr (Zr (Zr (Zr (Zr (Zr (Zr (Zir) Zis) Zit) Ziu) Ziv) Ziw) Zix) Ziy) Ziz) ZiA) Zhl) Zhm) Zhn) Zho) Zhp) Zhq) Zhr) Zhs) Zht) Zhu) Zhv) Zhw) Zhx) Zhy) Zhz) ZhA) ZhB) ZhC) ZhD) ZhE) ZhF) ZhG
end Go.Proofs.YtjepimjoknccmaaGreatDoor
