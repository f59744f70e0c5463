/-
  FnTop: what the row says of the program, fact by fact.
-/
import Derived.Test.YtoijdogpgpbddaaGreatDoorRows
import Derived.Test.YtoijdogpgpbddaaGreatDoorChecked
import Derived.KernelRfl
import Derived.JoinedOf
namespace Go.Proofs.YtoijdogpgpbddaaGreatDoor
open Go
set_option maxRecDepth 100000
theorem ZCk:(Rows.fnTopRow.wf (OpenSpec.ofChange Rows.fnTopSpec))=true:=by kernel_rfl
theorem ZCl:(laidOutB Tryz.prog)=true:=by kernel_rfl
theorem ZCm:(mapsRowed Tryz.prog)=true:=by kernel_rfl
theorem ZCn:(Tryz.f3.params.all (Tryz.prog.readableRec ·))=true:=by kernel_rfl
theorem ZCo:(namedTie Tryz.prog Rows.fnTopRow.named Rows.fnTopSpec.vars)=true:=by kernel_rfl
theorem ZCp:((Rows.fnTopRow.stops == []))=true:=by kernel_rfl
theorem ZCq:((Tryz.prog.stops == []))=true:=by kernel_rfl
theorem ZCr:((Rows.fnTopRow.knobs == []))=true:=by kernel_rfl
theorem ZCs:((Tryz.prog.stopKnobs == []))=true:=by kernel_rfl
theorem ZCt:((Rows.fnTopRow.inPlace == Tryz.prog.inPlace 3))=true:=by kernel_rfl
theorem ZzC:((Rows.fnTopRow.unfollowed == Tryz.prog.unfollowed 3))=true:=by kernel_rfl
theorem ZzD:((Rows.fnTopRow.recurses == Tryz.prog.recurses 3))=true:=by kernel_rfl
theorem ZzE:((Rows.fnTopRow.named == Tryz.prog.varsNamed 3))=true:=by kernel_rfl
theorem ZzF:((Rows.fnTopRow.maps == (Tryz.f3.params.toList++Rows.fnTopSpec.plain.varTypes Tryz.prog).any (Tryz.prog.mapsRec ·)))=true:=by kernel_rfl
theorem ZzG:((Rows.fnTopRow.ifaces == (Tryz.f3.params.toList++Rows.fnTopSpec.plain.varTypes Tryz.prog).any (Tryz.prog.ifacesRec ·)))=true:=by kernel_rfl
theorem ZzH:((Rows.fnTopRow.mapsOut == Tryz.prog.mapsAmong Tryz.f3.resultTypes.toList))=true:=by kernel_rfl
theorem ZzI:((Rows.fnTopRow.loops == (Tryz.f3.params.toList++Rows.fnTopSpec.plain.varTypes Tryz.prog).any (Tryz.prog.loopsFrom ·)))=true:=by kernel_rfl
theorem ZzJ:((Rows.fnTopRow.wideKeys == (Tryz.f3.params.toList++Rows.fnTopSpec.plain.varTypes Tryz.prog++Tryz.f3.resultTypes.toList).any (Tryz.prog.wideKeysFrom ·)))=true:=by kernel_rfl
theorem ZzK:(Rows.fnTopSpec.vars.all (Tryz.prog.varReadable ·))=true:=by kernel_rfl
theorem ZzL:(Tryz.f3.resultTypes.all (λt=>Tryz.prog.readableRec t&&decide (t<Tryz.prog.types.size)))=true:=by kernel_rfl
theorem ZzM:((Rows.fnTopRow.ifacesOut == Tryz.f3.resultTypes.toList.any (Tryz.prog.ifacesRec ·)))=true:=by kernel_rfl
theorem ZzN:((Rows.fnTopRow.loopsOut == Tryz.f3.resultTypes.toList.any (Tryz.prog.loopsFrom ·)))=true:=by kernel_rfl
theorem ZzO:((Rows.fnTopRow.plainKeys == Tryz.prog.plainKeys))=true:=by kernel_rfl
theorem ZzP:(Rows.fnTopRow.shortTexts.isNone)=true:=by kernel_rfl
theorem ZzQ:(Tryz.prog.stopsHeard)=true:=by kernel_rfl
theorem ZzR:(Tryz.prog.mayEnter)=true:=by kernel_rfl
theorem ZzS:((Rows.fnTopRow.lifted == Tryz.prog.liftsFinal))=true:=by kernel_rfl
theorem ZzT:((Tryz.prog.make == some Rows.fnTopRow.make))=true:=by kernel_rfl
theorem ZzU:((Rows.fnTopRow.kinds == (if Rows.fnTopRow.domain.isEmpty then [] else Tryz.f3.params.toList.map λt=>match Tryz.prog.underlying t with | some (.int k)=>some k | _=>none)))=true:=by kernel_rfl
theorem ZzV:((Rows.fnTopRow.pinned == Rows.fnTopRow.pinnedBy))=true:=by kernel_rfl
theorem ZzW:((Rows.fnTopRow.veiled == (Tryz.f3.params.toList++Rows.fnTopSpec.plain.varTypes Tryz.prog++Tryz.f3.resultTypes.toList).any (Tryz.prog.veiledRec ·)))=true:=by kernel_rfl
theorem ZzX:(Rows.fnTopRow.veiledFits Tryz.prog Tryz.f3.params.toList (Tryz.f3.params.toList++Rows.fnTopSpec.plain.varTypes Tryz.prog++Tryz.f3.resultTypes.toList))=true:=by kernel_rfl
theorem Xp {a b:Bool} (h1:a=true) (h2:b=true):(a&&b)=true:=by rw[h1,h2];rfl
theorem ZtY:joinedFacts Tryz.prog 3 Tryz.f3 Rows.fnTopSpec Rows.fnTopRow=true:=by
 unfold joinedFacts;exact Xp (Xp (Xp (Xp (Xp (Xp (Xp (Xp (Xp (Xp (Xp (Xp (Xp (Xp (Xp (Xp (Xp (Xp (Xp (Xp (Xp (Xp (Xp (Xp (Xp (Xp (Xp (Xp (Xp (Xp (Xp (ZCk) ZCl) ZCm) ZCn) ZCo) ZCp) ZCq) ZCr) ZCs) ZCt) ZzC) ZzD) ZzE) ZzF) ZzG) ZzH) ZzI) ZzJ) ZzK) ZzL) ZzM) ZzN) ZzO) ZzP) ZzQ) ZzR) ZzS) ZzT) ZzU) ZzV) ZzW) ZzX
end Go.Proofs.YtoijdogpgpbddaaGreatDoor
