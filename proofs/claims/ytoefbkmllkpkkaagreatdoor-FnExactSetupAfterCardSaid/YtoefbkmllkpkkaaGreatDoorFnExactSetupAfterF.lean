/-
  FnExactSetupAfter: what the row says of the program, fact by fact.
-/
import Derived.Test.YtoefbkmllkpkkaaGreatDoorRows
import Derived.Test.YtoefbkmllkpkkaaGreatDoorChecked
import Derived.KernelRfl
import Derived.JoinedOf
namespace Go.Proofs.YtoefbkmllkpkkaaGreatDoor
open Go
set_option maxRecDepth 100000
theorem Zk9:(Rows.fnExactSetupAfterRow.wf (OpenSpec.ofChange Rows.fnExactSetupAfterSpec))=true:=by kernel_rfl
theorem Zk1:(laidOutB Tryz.prog)=true:=by kernel_rfl
theorem Zlm:(mapsRowed Tryz.prog)=true:=by kernel_rfl
theorem Zk5:(Tryz.f3.params.all (Tryz.prog.readableRec ·))=true:=by kernel_rfl
theorem Zld:(namedTie Tryz.prog Rows.fnExactSetupAfterRow.named Rows.fnExactSetupAfterSpec.vars)=true:=by kernel_rfl
theorem Zln:((Rows.fnExactSetupAfterRow.stops == []))=true:=by kernel_rfl
theorem Zll:((Tryz.prog.stops == []))=true:=by kernel_rfl
theorem Zlk:((Rows.fnExactSetupAfterRow.knobs == []))=true:=by kernel_rfl
theorem Zlg:((Tryz.prog.stopKnobs == []))=true:=by kernel_rfl
theorem Zk8:((Rows.fnExactSetupAfterRow.inPlace == Tryz.prog.inPlace 3))=true:=by kernel_rfl
theorem Zkx:((Rows.fnExactSetupAfterRow.unfollowed == Tryz.prog.unfollowed 3))=true:=by kernel_rfl
theorem ZjQ:((Rows.fnExactSetupAfterRow.recurses == Tryz.prog.recurses 3))=true:=by kernel_rfl
theorem ZjZ:((Rows.fnExactSetupAfterRow.named == Tryz.prog.varsNamed 3))=true:=by kernel_rfl
theorem Zkt:((Rows.fnExactSetupAfterRow.maps == (Tryz.f3.params.toList++Rows.fnExactSetupAfterSpec.plain.varTypes Tryz.prog).any (Tryz.prog.mapsRec ·)))=true:=by kernel_rfl
theorem Zku:((Rows.fnExactSetupAfterRow.ifaces == (Tryz.f3.params.toList++Rows.fnExactSetupAfterSpec.plain.varTypes Tryz.prog).any (Tryz.prog.ifacesRec ·)))=true:=by kernel_rfl
theorem Zki:((Rows.fnExactSetupAfterRow.mapsOut == Tryz.prog.mapsAmong Tryz.f3.resultTypes.toList))=true:=by kernel_rfl
theorem Zky:((Rows.fnExactSetupAfterRow.loops == (Tryz.f3.params.toList++Rows.fnExactSetupAfterSpec.plain.varTypes Tryz.prog).any (Tryz.prog.loopsFrom ·)))=true:=by kernel_rfl
theorem Zko:((Rows.fnExactSetupAfterRow.wideKeys == (Tryz.f3.params.toList++Rows.fnExactSetupAfterSpec.plain.varTypes Tryz.prog++Tryz.f3.resultTypes.toList).any (Tryz.prog.wideKeysFrom ·)))=true:=by kernel_rfl
theorem Zkb:(Rows.fnExactSetupAfterSpec.vars.all (Tryz.prog.varReadable ·))=true:=by kernel_rfl
theorem Zkd:(Tryz.f3.resultTypes.all (fun t=>Tryz.prog.readableRec t&&decide (t<Tryz.prog.types.size)))=true:=by kernel_rfl
theorem ZkE:((Rows.fnExactSetupAfterRow.ifacesOut == Tryz.f3.resultTypes.toList.any (Tryz.prog.ifacesRec ·)))=true:=by kernel_rfl
theorem Zkf:((Rows.fnExactSetupAfterRow.loopsOut == Tryz.f3.resultTypes.toList.any (Tryz.prog.loopsFrom ·)))=true:=by kernel_rfl
theorem ZjX:((Rows.fnExactSetupAfterRow.plainKeys == Tryz.prog.plainKeys))=true:=by kernel_rfl
theorem Zj8:(Rows.fnExactSetupAfterRow.shortTexts.isNone)=true:=by kernel_rfl
theorem Zkp:(Tryz.prog.stopsHeard)=true:=by kernel_rfl
theorem ZkF:(Tryz.prog.mayEnter)=true:=by kernel_rfl
theorem Zkk:((Rows.fnExactSetupAfterRow.lifted == Tryz.prog.liftsFinal))=true:=by kernel_rfl
theorem ZjU:((Tryz.prog.make == some Rows.fnExactSetupAfterRow.make))=true:=by kernel_rfl
theorem Zj5:((Rows.fnExactSetupAfterRow.kinds == (if Rows.fnExactSetupAfterRow.domain.isEmpty then [] else Tryz.f3.params.toList.map fun t=>match Tryz.prog.underlying t with | some (.int k)=>some k | _=>none)))=true:=by kernel_rfl
theorem Zkh:((Rows.fnExactSetupAfterRow.pinned == Rows.fnExactSetupAfterRow.pinnedBy))=true:=by kernel_rfl
theorem Zkg:((Rows.fnExactSetupAfterRow.veiled == (Tryz.f3.params.toList++Rows.fnExactSetupAfterSpec.plain.varTypes Tryz.prog++Tryz.f3.resultTypes.toList).any (Tryz.prog.veiledRec ·)))=true:=by kernel_rfl
theorem Zka:(Rows.fnExactSetupAfterRow.veiledFits Tryz.prog Tryz.f3.params.toList (Tryz.f3.params.toList++Rows.fnExactSetupAfterSpec.plain.varTypes Tryz.prog++Tryz.f3.resultTypes.toList))=true:=by kernel_rfl
theorem Zy {a b:Bool} (h1:a=true) (h2:b=true):(a&&b)=true:=by rw [h1,h2];rfl
theorem Zie:joinedFacts Tryz.prog 3 Tryz.f3 Rows.fnExactSetupAfterSpec Rows.fnExactSetupAfterRow=true:=by
 unfold joinedFacts
 exact Zy (Zy (Zy (Zy (Zy (Zy (Zy (Zy (Zy (Zy (Zy (Zy (Zy (Zy (Zy (Zy (Zy (Zy (Zy (Zy (Zy (Zy (Zy (Zy (Zy (Zy (Zy (Zy (Zy (Zy (Zy (Zk9) Zk1) Zlm) Zk5) Zld) Zln) Zll) Zlk) Zlg) Zk8) Zkx) ZjQ) ZjZ) Zkt) Zku) Zki) Zky) Zko) Zkb) Zkd) ZkE) Zkf) ZjX) Zj8) Zkp) ZkF) Zkk) ZjU) Zj5) Zkh) Zkg) Zka
end Go.Proofs.YtoefbkmllkpkkaaGreatDoor
