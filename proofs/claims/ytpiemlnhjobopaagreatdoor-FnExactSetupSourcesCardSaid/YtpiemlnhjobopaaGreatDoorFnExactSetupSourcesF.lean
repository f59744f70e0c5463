/-
  FnExactSetupSources: what the row says of the program, fact by fact.
-/
import Derived.Test.YtpiemlnhjobopaaGreatDoorRows
import Derived.Test.YtpiemlnhjobopaaGreatDoorChecked
import Derived.KernelRfl
import Derived.JoinedOf
namespace Go.Proofs.YtpiemlnhjobopaaGreatDoor
open Go
set_option maxRecDepth 100000
theorem ZgP:(Rows.fnExactSetupSourcesRow.wf (OpenSpec.ofChange Rows.fnExactSetupSourcesSpec))=true:=by kernel_rfl
theorem ZgQ:(laidOutB Tryz.prog)=true:=by kernel_rfl
theorem ZgR:(mapsRowed Tryz.prog)=true:=by kernel_rfl
theorem ZgS:(Tryz.f3.params.all (Tryz.prog.readableRec ·))=true:=by kernel_rfl
theorem ZgT:(namedTie Tryz.prog Rows.fnExactSetupSourcesRow.named Rows.fnExactSetupSourcesSpec.vars)=true:=by kernel_rfl
theorem ZgU:((Rows.fnExactSetupSourcesRow.stops == []))=true:=by kernel_rfl
theorem ZgV:((Tryz.prog.stops == []))=true:=by kernel_rfl
theorem ZgW:((Rows.fnExactSetupSourcesRow.knobs == []))=true:=by kernel_rfl
theorem ZgX:((Tryz.prog.stopKnobs == []))=true:=by kernel_rfl
theorem ZgY:((Rows.fnExactSetupSourcesRow.inPlace == Tryz.prog.inPlace 3))=true:=by kernel_rfl
theorem ZfK:((Rows.fnExactSetupSourcesRow.unfollowed == Tryz.prog.unfollowed 3))=true:=by kernel_rfl
theorem ZfL:((Rows.fnExactSetupSourcesRow.recurses == Tryz.prog.recurses 3))=true:=by kernel_rfl
theorem ZfM:((Rows.fnExactSetupSourcesRow.named == Tryz.prog.varsNamed 3))=true:=by kernel_rfl
theorem ZfN:((Rows.fnExactSetupSourcesRow.maps == (Tryz.f3.params.toList++Rows.fnExactSetupSourcesSpec.plain.varTypes Tryz.prog).any (Tryz.prog.mapsRec ·)))=true:=by kernel_rfl
theorem ZfO:((Rows.fnExactSetupSourcesRow.ifaces == (Tryz.f3.params.toList++Rows.fnExactSetupSourcesSpec.plain.varTypes Tryz.prog).any (Tryz.prog.ifacesRec ·)))=true:=by kernel_rfl
theorem ZfP:((Rows.fnExactSetupSourcesRow.mapsOut == Tryz.prog.mapsAmong Tryz.f3.resultTypes.toList))=true:=by kernel_rfl
theorem ZfQ:((Rows.fnExactSetupSourcesRow.loops == (Tryz.f3.params.toList++Rows.fnExactSetupSourcesSpec.plain.varTypes Tryz.prog).any (Tryz.prog.loopsFrom ·)))=true:=by kernel_rfl
theorem ZfR:((Rows.fnExactSetupSourcesRow.wideKeys == (Tryz.f3.params.toList++Rows.fnExactSetupSourcesSpec.plain.varTypes Tryz.prog++Tryz.f3.resultTypes.toList).any (Tryz.prog.wideKeysFrom ·)))=true:=by kernel_rfl
theorem ZfS:(Rows.fnExactSetupSourcesSpec.vars.all (Tryz.prog.varReadable ·))=true:=by kernel_rfl
theorem ZfT:(Tryz.f3.resultTypes.all (fun t=>Tryz.prog.readableRec t&&decide (t<Tryz.prog.types.size)))=true:=by kernel_rfl
theorem ZfU:((Rows.fnExactSetupSourcesRow.ifacesOut == Tryz.f3.resultTypes.toList.any (Tryz.prog.ifacesRec ·)))=true:=by kernel_rfl
theorem ZfV:((Rows.fnExactSetupSourcesRow.loopsOut == Tryz.f3.resultTypes.toList.any (Tryz.prog.loopsFrom ·)))=true:=by kernel_rfl
theorem ZfW:((Rows.fnExactSetupSourcesRow.plainKeys == Tryz.prog.plainKeys))=true:=by kernel_rfl
theorem ZfX:(Rows.fnExactSetupSourcesRow.shortTexts.isNone)=true:=by kernel_rfl
theorem ZfY:(Tryz.prog.stopsHeard)=true:=by kernel_rfl
theorem ZfZ:(Tryz.prog.mayEnter)=true:=by kernel_rfl
theorem Zf0:((Rows.fnExactSetupSourcesRow.lifted == Tryz.prog.liftsFinal))=true:=by kernel_rfl
theorem Zf1:((Tryz.prog.make == some Rows.fnExactSetupSourcesRow.make))=true:=by kernel_rfl
theorem Zf2:((Rows.fnExactSetupSourcesRow.kinds == (if Rows.fnExactSetupSourcesRow.domain.isEmpty then [] else Tryz.f3.params.toList.map fun t=>match Tryz.prog.underlying t with | some (.int k)=>some k | _=>none)))=true:=by kernel_rfl
theorem Zf3:((Rows.fnExactSetupSourcesRow.pinned == Rows.fnExactSetupSourcesRow.pinnedBy))=true:=by kernel_rfl
theorem Zf4:((Rows.fnExactSetupSourcesRow.veiled == (Tryz.f3.params.toList++Rows.fnExactSetupSourcesSpec.plain.varTypes Tryz.prog++Tryz.f3.resultTypes.toList).any (Tryz.prog.veiledRec ·)))=true:=by kernel_rfl
theorem Zf5:(Rows.fnExactSetupSourcesRow.veiledFits Tryz.prog Tryz.f3.params.toList (Tryz.f3.params.toList++Rows.fnExactSetupSourcesSpec.plain.varTypes Tryz.prog++Tryz.f3.resultTypes.toList))=true:=by kernel_rfl
theorem Zo {a b:Bool} (h1:a=true) (h2:b=true):(a&&b)=true:=by rw [h1,h2];rfl
theorem Zew:joinedFacts Tryz.prog 3 Tryz.f3 Rows.fnExactSetupSourcesSpec Rows.fnExactSetupSourcesRow=true:=by
 unfold joinedFacts
 exact Zo (Zo (Zo (Zo (Zo (Zo (Zo (Zo (Zo (Zo (Zo (Zo (Zo (Zo (Zo (Zo (Zo (Zo (Zo (Zo (Zo (Zo (Zo (Zo (Zo (Zo (Zo (Zo (Zo (Zo (Zo (ZgP) ZgQ) ZgR) ZgS) ZgT) ZgU) ZgV) ZgW) ZgX) ZgY) ZfK) ZfL) ZfM) ZfN) ZfO) ZfP) ZfQ) ZfR) ZfS) ZfT) ZfU) ZfV) ZfW) ZfX) ZfY) ZfZ) Zf0) Zf1) Zf2) Zf3) Zf4) Zf5
end Go.Proofs.YtpiemlnhjobopaaGreatDoor
