/-
  FnExactSetupText: what the row says of the program, fact by fact.
-/
import Derived.Test.YtepbknolmhmipaaGreatDoorRows
import Derived.Test.YtepbknolmhmipaaGreatDoorChecked
import Derived.KernelRfl
import Derived.JoinedOf
namespace Go.Proofs.YtepbknolmhmipaaGreatDoor
open Go
set_option maxRecDepth 100000
theorem ZhQ:(Rows.fnExactSetupTextRow.wf (OpenSpec.ofChange Rows.fnExactSetupTextSpec))=true:=by kernel_rfl
theorem ZhR:(laidOutB Tryz.prog)=true:=by kernel_rfl
theorem ZhS:(mapsRowed Tryz.prog)=true:=by kernel_rfl
theorem ZhT:(Tryz.f3.params.all (Tryz.prog.readableRec ·))=true:=by kernel_rfl
theorem ZhU:(namedTie Tryz.prog Rows.fnExactSetupTextRow.named Rows.fnExactSetupTextSpec.vars)=true:=by kernel_rfl
theorem ZhV:((Rows.fnExactSetupTextRow.stops == []))=true:=by kernel_rfl
theorem ZhW:((Tryz.prog.stops == []))=true:=by kernel_rfl
theorem ZhX:((Rows.fnExactSetupTextRow.knobs == []))=true:=by kernel_rfl
theorem ZhY:((Tryz.prog.stopKnobs == []))=true:=by kernel_rfl
theorem ZhZ:((Rows.fnExactSetupTextRow.inPlace == Tryz.prog.inPlace 3))=true:=by kernel_rfl
theorem ZgM:((Rows.fnExactSetupTextRow.unfollowed == Tryz.prog.unfollowed 3))=true:=by kernel_rfl
theorem ZgN:((Rows.fnExactSetupTextRow.recurses == Tryz.prog.recurses 3))=true:=by kernel_rfl
theorem ZgO:((Rows.fnExactSetupTextRow.named == Tryz.prog.varsNamed 3))=true:=by kernel_rfl
theorem ZgP:((Rows.fnExactSetupTextRow.maps == (Tryz.f3.params.toList++Rows.fnExactSetupTextSpec.plain.varTypes Tryz.prog).any (Tryz.prog.mapsRec ·)))=true:=by kernel_rfl
theorem ZgQ:((Rows.fnExactSetupTextRow.ifaces == (Tryz.f3.params.toList++Rows.fnExactSetupTextSpec.plain.varTypes Tryz.prog).any (Tryz.prog.ifacesRec ·)))=true:=by kernel_rfl
theorem ZgR:((Rows.fnExactSetupTextRow.mapsOut == Tryz.prog.mapsAmong Tryz.f3.resultTypes.toList))=true:=by kernel_rfl
theorem ZgS:((Rows.fnExactSetupTextRow.loops == (Tryz.f3.params.toList++Rows.fnExactSetupTextSpec.plain.varTypes Tryz.prog).any (Tryz.prog.loopsFrom ·)))=true:=by kernel_rfl
theorem ZgT:((Rows.fnExactSetupTextRow.wideKeys == (Tryz.f3.params.toList++Rows.fnExactSetupTextSpec.plain.varTypes Tryz.prog++Tryz.f3.resultTypes.toList).any (Tryz.prog.wideKeysFrom ·)))=true:=by kernel_rfl
theorem ZgU:(Rows.fnExactSetupTextSpec.vars.all (Tryz.prog.varReadable ·))=true:=by kernel_rfl
theorem ZgV:(Tryz.f3.resultTypes.all (λt=>Tryz.prog.readableRec t&&decide (t<Tryz.prog.types.size)))=true:=by kernel_rfl
theorem ZgW:((Rows.fnExactSetupTextRow.ifacesOut == Tryz.f3.resultTypes.toList.any (Tryz.prog.ifacesRec ·)))=true:=by kernel_rfl
theorem ZgX:((Rows.fnExactSetupTextRow.loopsOut == Tryz.f3.resultTypes.toList.any (Tryz.prog.loopsFrom ·)))=true:=by kernel_rfl
theorem ZgY:((Rows.fnExactSetupTextRow.plainKeys == Tryz.prog.plainKeys))=true:=by kernel_rfl
theorem ZgZ:(Rows.fnExactSetupTextRow.shortTexts.isNone)=true:=by kernel_rfl
theorem Zg0:(Tryz.prog.stopsHeard)=true:=by kernel_rfl
theorem Zg1:(Tryz.prog.mayEnter)=true:=by kernel_rfl
theorem Zg2:((Rows.fnExactSetupTextRow.lifted == Tryz.prog.liftsFinal))=true:=by kernel_rfl
theorem Zg3:((Tryz.prog.make == some Rows.fnExactSetupTextRow.make))=true:=by kernel_rfl
theorem Zg4:((Rows.fnExactSetupTextRow.kinds == (if Rows.fnExactSetupTextRow.domain.isEmpty then [] else Tryz.f3.params.toList.map λt=>match Tryz.prog.underlying t with | some (.int k)=>some k | _=>none)))=true:=by kernel_rfl
theorem Zg5:((Rows.fnExactSetupTextRow.pinned == Rows.fnExactSetupTextRow.pinnedBy))=true:=by kernel_rfl
theorem Zg6:((Rows.fnExactSetupTextRow.veiled == (Tryz.f3.params.toList++Rows.fnExactSetupTextSpec.plain.varTypes Tryz.prog++Tryz.f3.resultTypes.toList).any (Tryz.prog.veiledRec ·)))=true:=by kernel_rfl
theorem Zg7:(Rows.fnExactSetupTextRow.veiledFits Tryz.prog Tryz.f3.params.toList (Tryz.f3.params.toList++Rows.fnExactSetupTextSpec.plain.varTypes Tryz.prog++Tryz.f3.resultTypes.toList))=true:=by kernel_rfl
theorem Zr {a b:Bool} (h1:a=true) (h2:b=true):(a&&b)=true:=by rw[h1,h2];rfl
theorem ZeX:joinedFacts Tryz.prog 3 Tryz.f3 Rows.fnExactSetupTextSpec Rows.fnExactSetupTextRow=true:=by
 unfold joinedFacts;exact Zr (Zr (Zr (Zr (Zr (Zr (Zr (Zr (Zr (Zr (Zr (Zr (Zr (Zr (Zr (Zr (Zr (Zr (Zr (Zr (Zr (Zr (Zr (Zr (Zr (Zr (Zr (Zr (Zr (Zr (Zr (ZhQ) ZhR) ZhS) ZhT) ZhU) ZhV) ZhW) ZhX) ZhY) ZhZ) ZgM) ZgN) ZgO) ZgP) ZgQ) ZgR) ZgS) ZgT) ZgU) ZgV) ZgW) ZgX) ZgY) ZgZ) Zg0) Zg1) Zg2) Zg3) Zg4) Zg5) Zg6) Zg7
end Go.Proofs.YtepbknolmhmipaaGreatDoor
