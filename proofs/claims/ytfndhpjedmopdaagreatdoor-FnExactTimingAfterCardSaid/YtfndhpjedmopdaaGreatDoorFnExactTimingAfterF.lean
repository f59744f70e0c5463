/-
  FnExactTimingAfter: what the row says of the program, fact by fact.
-/
import Derived.Test.YtfndhpjedmopdaaGreatDoorRows
import Derived.Test.YtfndhpjedmopdaaGreatDoorChecked
import Derived.KernelRfl
import Derived.JoinedOf
namespace Go.Proofs.YtfndhpjedmopdaaGreatDoor
open Go
set_option maxRecDepth 100000
theorem ZiD:(Rows.fnExactTimingAfterRow.wf (OpenSpec.ofChange Rows.fnExactTimingAfterSpec))=true:=by kernel_rfl
theorem ZiA:(laidOutB Tryz.prog)=true:=by kernel_rfl
theorem Zit:(mapsRowed Tryz.prog)=true:=by kernel_rfl
theorem Zh7:(Tryz.f4.params.all (Tryz.prog.readableRec ·))=true:=by kernel_rfl
theorem Zii:(namedTie Tryz.prog Rows.fnExactTimingAfterRow.named Rows.fnExactTimingAfterSpec.vars)=true:=by kernel_rfl
theorem Zix:((Rows.fnExactTimingAfterRow.stops == []))=true:=by kernel_rfl
theorem Zio:((Tryz.prog.stops == []))=true:=by kernel_rfl
theorem Ziu:((Rows.fnExactTimingAfterRow.knobs == []))=true:=by kernel_rfl
theorem ZiE:((Tryz.prog.stopKnobs == []))=true:=by kernel_rfl
theorem Zie:((Rows.fnExactTimingAfterRow.inPlace == Tryz.prog.inPlace 4))=true:=by kernel_rfl
theorem Zhv:((Rows.fnExactTimingAfterRow.unfollowed == Tryz.prog.unfollowed 4))=true:=by kernel_rfl
theorem ZhB:((Rows.fnExactTimingAfterRow.recurses == Tryz.prog.recurses 4))=true:=by kernel_rfl
theorem ZhF:((Rows.fnExactTimingAfterRow.named == Tryz.prog.varsNamed 4))=true:=by kernel_rfl
theorem ZhR:((Rows.fnExactTimingAfterRow.maps == (Tryz.f4.params.toList++Rows.fnExactTimingAfterSpec.plain.varTypes Tryz.prog).any (Tryz.prog.mapsRec ·)))=true:=by kernel_rfl
theorem ZhX:((Rows.fnExactTimingAfterRow.ifaces == (Tryz.f4.params.toList++Rows.fnExactTimingAfterSpec.plain.varTypes Tryz.prog).any (Tryz.prog.ifacesRec ·)))=true:=by kernel_rfl
theorem ZhK:((Rows.fnExactTimingAfterRow.mapsOut == Tryz.prog.mapsAmong Tryz.f4.resultTypes.toList))=true:=by kernel_rfl
theorem ZhN:((Rows.fnExactTimingAfterRow.loops == (Tryz.f4.params.toList++Rows.fnExactTimingAfterSpec.plain.varTypes Tryz.prog).any (Tryz.prog.loopsFrom ·)))=true:=by kernel_rfl
theorem ZhQ:((Rows.fnExactTimingAfterRow.wideKeys == (Tryz.f4.params.toList++Rows.fnExactTimingAfterSpec.plain.varTypes Tryz.prog++Tryz.f4.resultTypes.toList).any (Tryz.prog.wideKeysFrom ·)))=true:=by kernel_rfl
theorem Zhw:(Rows.fnExactTimingAfterSpec.vars.all (Tryz.prog.varReadable ·))=true:=by kernel_rfl
theorem ZhU:(Tryz.f4.resultTypes.all (fun t=>Tryz.prog.readableRec t&&decide (t<Tryz.prog.types.size)))=true:=by kernel_rfl
theorem ZhG:((Rows.fnExactTimingAfterRow.ifacesOut == Tryz.f4.resultTypes.toList.any (Tryz.prog.ifacesRec ·)))=true:=by kernel_rfl
theorem ZhJ:((Rows.fnExactTimingAfterRow.loopsOut == Tryz.f4.resultTypes.toList.any (Tryz.prog.loopsFrom ·)))=true:=by kernel_rfl
theorem ZhH:((Rows.fnExactTimingAfterRow.plainKeys == Tryz.prog.plainKeys))=true:=by kernel_rfl
theorem ZhI:(Rows.fnExactTimingAfterRow.shortTexts.isNone)=true:=by kernel_rfl
theorem ZhL:(Tryz.prog.stopsHeard)=true:=by kernel_rfl
theorem ZhE:(Tryz.prog.mayEnter)=true:=by kernel_rfl
theorem ZhT:((Rows.fnExactTimingAfterRow.lifted == Tryz.prog.liftsFinal))=true:=by kernel_rfl
theorem ZhS:((Tryz.prog.make == some Rows.fnExactTimingAfterRow.make))=true:=by kernel_rfl
theorem Zhx:((Rows.fnExactTimingAfterRow.kinds == (if Rows.fnExactTimingAfterRow.domain.isEmpty then [] else Tryz.f4.params.toList.map fun t=>match Tryz.prog.underlying t with | some (.int k)=>some k | _=>none)))=true:=by kernel_rfl
theorem ZhO:((Rows.fnExactTimingAfterRow.pinned == Rows.fnExactTimingAfterRow.pinnedBy))=true:=by kernel_rfl
theorem ZhW:((Rows.fnExactTimingAfterRow.veiled == (Tryz.f4.params.toList++Rows.fnExactTimingAfterSpec.plain.varTypes Tryz.prog++Tryz.f4.resultTypes.toList).any (Tryz.prog.veiledRec ·)))=true:=by kernel_rfl
theorem ZhD:(Rows.fnExactTimingAfterRow.veiledFits Tryz.prog Tryz.f4.params.toList (Tryz.f4.params.toList++Rows.fnExactTimingAfterSpec.plain.varTypes Tryz.prog++Tryz.f4.resultTypes.toList))=true:=by kernel_rfl
theorem Zr {a b:Bool} (h1:a=true) (h2:b=true):(a&&b)=true:=by rw [h1,h2];rfl
theorem Zgt:joinedFacts Tryz.prog 4 Tryz.f4 Rows.fnExactTimingAfterSpec Rows.fnExactTimingAfterRow=true:=by
 unfold joinedFacts
 exact Zr (Zr (Zr (Zr (Zr (Zr (Zr (Zr (Zr (Zr (Zr (Zr (Zr (Zr (Zr (Zr (Zr (Zr (Zr (Zr (Zr (Zr (Zr (Zr (Zr (Zr (Zr (Zr (Zr (Zr (Zr (ZiD) ZiA) Zit) Zh7) Zii) Zix) Zio) Ziu) ZiE) Zie) Zhv) ZhB) ZhF) ZhR) ZhX) ZhK) ZhN) ZhQ) Zhw) ZhU) ZhG) ZhJ) ZhH) ZhI) ZhL) ZhE) ZhT) ZhS) Zhx) ZhO) ZhW) ZhD
end Go.Proofs.YtfndhpjedmopdaaGreatDoor
