/-
  FnEditInverse: what the row says of the program, fact by fact.
-/
import Derived.Test.YtnnbgbgapogckaaGreatDoorRows
import Derived.Test.YtnnbgbgapogckaaGreatDoorChecked
import Derived.KernelRfl
import Derived.JoinedOf
namespace Go.Proofs.YtnnbgbgapogckaaGreatDoor
open Go
set_option maxRecDepth 100000
theorem ZwN:(Rows.fnEditInverseRow.wf (OpenSpec.ofChange Rows.fnEditInverseSpec))=true:=by kernel_rfl
theorem ZwO:(laidOutB Tryz.prog)=true:=by kernel_rfl
theorem ZwP:(mapsRowed Tryz.prog)=true:=by kernel_rfl
theorem ZwQ:(Tryz.f6.params.all (Tryz.prog.readableRec ·))=true:=by kernel_rfl
theorem ZwR:(namedTie Tryz.prog Rows.fnEditInverseRow.named Rows.fnEditInverseSpec.vars)=true:=by kernel_rfl
theorem ZwS:((Rows.fnEditInverseRow.stops == []))=true:=by kernel_rfl
theorem ZwT:((Tryz.prog.stops == []))=true:=by kernel_rfl
theorem ZwU:((Rows.fnEditInverseRow.knobs == []))=true:=by kernel_rfl
theorem ZwV:((Tryz.prog.stopKnobs == []))=true:=by kernel_rfl
theorem ZwW:((Rows.fnEditInverseRow.inPlace == Tryz.prog.inPlace 6))=true:=by kernel_rfl
theorem Zv9:((Rows.fnEditInverseRow.unfollowed == Tryz.prog.unfollowed 6))=true:=by kernel_rfl
theorem Zwa:((Rows.fnEditInverseRow.recurses == Tryz.prog.recurses 6))=true:=by kernel_rfl
theorem Zwb:((Rows.fnEditInverseRow.named == Tryz.prog.varsNamed 6))=true:=by kernel_rfl
theorem Zwc:((Rows.fnEditInverseRow.maps == (Tryz.f6.params.toList++Rows.fnEditInverseSpec.plain.varTypes Tryz.prog).any (Tryz.prog.mapsRec ·)))=true:=by kernel_rfl
theorem Zwd:((Rows.fnEditInverseRow.ifaces == (Tryz.f6.params.toList++Rows.fnEditInverseSpec.plain.varTypes Tryz.prog).any (Tryz.prog.ifacesRec ·)))=true:=by kernel_rfl
theorem Zwe:((Rows.fnEditInverseRow.mapsOut == Tryz.prog.mapsAmong Tryz.f6.resultTypes.toList))=true:=by kernel_rfl
theorem Zwf:((Rows.fnEditInverseRow.loops == (Tryz.f6.params.toList++Rows.fnEditInverseSpec.plain.varTypes Tryz.prog).any (Tryz.prog.loopsFrom ·)))=true:=by kernel_rfl
theorem Zwg:((Rows.fnEditInverseRow.wideKeys == (Tryz.f6.params.toList++Rows.fnEditInverseSpec.plain.varTypes Tryz.prog++Tryz.f6.resultTypes.toList).any (Tryz.prog.wideKeysFrom ·)))=true:=by kernel_rfl
theorem Zwh:(Rows.fnEditInverseSpec.vars.all (Tryz.prog.varReadable ·))=true:=by kernel_rfl
theorem Zwi:(Tryz.f6.resultTypes.all (fun t=>Tryz.prog.readableRec t&&decide (t<Tryz.prog.types.size)))=true:=by kernel_rfl
theorem Zwj:((Rows.fnEditInverseRow.ifacesOut == Tryz.f6.resultTypes.toList.any (Tryz.prog.ifacesRec ·)))=true:=by kernel_rfl
theorem Zwk:((Rows.fnEditInverseRow.loopsOut == Tryz.f6.resultTypes.toList.any (Tryz.prog.loopsFrom ·)))=true:=by kernel_rfl
theorem Zwl:((Rows.fnEditInverseRow.plainKeys == Tryz.prog.plainKeys))=true:=by kernel_rfl
theorem Zwm:(Rows.fnEditInverseRow.shortTexts.isNone)=true:=by kernel_rfl
theorem Zwn:(Tryz.prog.stopsHeard)=true:=by kernel_rfl
theorem Zwo:(Tryz.prog.mayEnter)=true:=by kernel_rfl
theorem Zwp:((Rows.fnEditInverseRow.lifted == Tryz.prog.liftsFinal))=true:=by kernel_rfl
theorem Zwq:((Tryz.prog.make == some Rows.fnEditInverseRow.make))=true:=by kernel_rfl
theorem Zwr:((Rows.fnEditInverseRow.kinds == (if Rows.fnEditInverseRow.domain.isEmpty then [] else Tryz.f6.params.toList.map fun t=>match Tryz.prog.underlying t with | some (.int k)=>some k | _=>none)))=true:=by kernel_rfl
theorem Zws:((Rows.fnEditInverseRow.pinned == Rows.fnEditInverseRow.pinnedBy))=true:=by kernel_rfl
theorem Zwt:((Rows.fnEditInverseRow.veiled == (Tryz.f6.params.toList++Rows.fnEditInverseSpec.plain.varTypes Tryz.prog++Tryz.f6.resultTypes.toList).any (Tryz.prog.veiledRec ·)))=true:=by kernel_rfl
theorem Zwu:(Rows.fnEditInverseRow.veiledFits Tryz.prog Tryz.f6.params.toList (Tryz.f6.params.toList++Rows.fnEditInverseSpec.plain.varTypes Tryz.prog++Tryz.f6.resultTypes.toList))=true:=by kernel_rfl
theorem Zpa {a b:Bool} (h1:a=true) (h2:b=true):(a&&b)=true:=by rw [h1,h2];rfl
theorem Zvk:joinedFacts Tryz.prog 6 Tryz.f6 Rows.fnEditInverseSpec Rows.fnEditInverseRow=true:=by
 unfold joinedFacts
 exact Zpa (Zpa (Zpa (Zpa (Zpa (Zpa (Zpa (Zpa (Zpa (Zpa (Zpa (Zpa (Zpa (Zpa (Zpa (Zpa (Zpa (Zpa (Zpa (Zpa (Zpa (Zpa (Zpa (Zpa (Zpa (Zpa (Zpa (Zpa (Zpa (Zpa (Zpa (ZwN) ZwO) ZwP) ZwQ) ZwR) ZwS) ZwT) ZwU) ZwV) ZwW) Zv9) Zwa) Zwb) Zwc) Zwd) Zwe) Zwf) Zwg) Zwh) Zwi) Zwj) Zwk) Zwl) Zwm) Zwn) Zwo) Zwp) Zwq) Zwr) Zws) Zwt) Zwu
end Go.Proofs.YtnnbgbgapogckaaGreatDoor
