/-
  FnTopOfAll: what the row says of the program, fact by fact.
-/
import Derived.Test.YtoijdogpgpbddaaGreatDoorRows
import Derived.Test.YtoijdogpgpbddaaGreatDoorChecked
import Derived.KernelRfl
import Derived.JoinedOf
namespace Go.Proofs.YtoijdogpgpbddaaGreatDoor
open Go
set_option maxRecDepth 100000
theorem ZPv:(Rows.fnTopOfAllRow.wf (OpenSpec.ofChange Rows.fnTopOfAllSpec))=true:=by kernel_rfl
theorem ZPw:(laidOutB Tryz.prog)=true:=by kernel_rfl
theorem ZPx:(mapsRowed Tryz.prog)=true:=by kernel_rfl
theorem ZPy:(Tryz.f4.params.all (Tryz.prog.readableRec ·))=true:=by kernel_rfl
theorem ZPz:(namedTie Tryz.prog Rows.fnTopOfAllRow.named Rows.fnTopOfAllSpec.vars)=true:=by kernel_rfl
theorem ZPA:((Rows.fnTopOfAllRow.stops == []))=true:=by kernel_rfl
theorem ZPB:((Tryz.prog.stops == []))=true:=by kernel_rfl
theorem ZPC:((Rows.fnTopOfAllRow.knobs == []))=true:=by kernel_rfl
theorem ZPD:((Tryz.prog.stopKnobs == []))=true:=by kernel_rfl
theorem ZPE:((Rows.fnTopOfAllRow.inPlace == Tryz.prog.inPlace 4))=true:=by kernel_rfl
theorem ZO6:((Rows.fnTopOfAllRow.unfollowed == Tryz.prog.unfollowed 4))=true:=by kernel_rfl
theorem ZO7:((Rows.fnTopOfAllRow.recurses == Tryz.prog.recurses 4))=true:=by kernel_rfl
theorem ZO8:((Rows.fnTopOfAllRow.named == Tryz.prog.varsNamed 4))=true:=by kernel_rfl
theorem ZO9:((Rows.fnTopOfAllRow.maps == (Tryz.f4.params.toList++Rows.fnTopOfAllSpec.plain.varTypes Tryz.prog).any (Tryz.prog.mapsRec ·)))=true:=by kernel_rfl
theorem ZPa:((Rows.fnTopOfAllRow.ifaces == (Tryz.f4.params.toList++Rows.fnTopOfAllSpec.plain.varTypes Tryz.prog).any (Tryz.prog.ifacesRec ·)))=true:=by kernel_rfl
theorem ZPb:((Rows.fnTopOfAllRow.mapsOut == Tryz.prog.mapsAmong Tryz.f4.resultTypes.toList))=true:=by kernel_rfl
theorem ZPc:((Rows.fnTopOfAllRow.loops == (Tryz.f4.params.toList++Rows.fnTopOfAllSpec.plain.varTypes Tryz.prog).any (Tryz.prog.loopsFrom ·)))=true:=by kernel_rfl
theorem ZPd:((Rows.fnTopOfAllRow.wideKeys == (Tryz.f4.params.toList++Rows.fnTopOfAllSpec.plain.varTypes Tryz.prog++Tryz.f4.resultTypes.toList).any (Tryz.prog.wideKeysFrom ·)))=true:=by kernel_rfl
theorem ZPe:(Rows.fnTopOfAllSpec.vars.all (Tryz.prog.varReadable ·))=true:=by kernel_rfl
theorem ZPf:(Tryz.f4.resultTypes.all (λt=>Tryz.prog.readableRec t&&decide (t<Tryz.prog.types.size)))=true:=by kernel_rfl
theorem ZPg:((Rows.fnTopOfAllRow.ifacesOut == Tryz.f4.resultTypes.toList.any (Tryz.prog.ifacesRec ·)))=true:=by kernel_rfl
theorem ZPh:((Rows.fnTopOfAllRow.loopsOut == Tryz.f4.resultTypes.toList.any (Tryz.prog.loopsFrom ·)))=true:=by kernel_rfl
theorem ZPi:((Rows.fnTopOfAllRow.plainKeys == Tryz.prog.plainKeys))=true:=by kernel_rfl
theorem ZPj:(Rows.fnTopOfAllRow.shortTexts.isNone)=true:=by kernel_rfl
theorem ZPk:(Tryz.prog.stopsHeard)=true:=by kernel_rfl
theorem ZPl:(Tryz.prog.mayEnter)=true:=by kernel_rfl
theorem ZPm:((Rows.fnTopOfAllRow.lifted == Tryz.prog.liftsFinal))=true:=by kernel_rfl
theorem ZPn:((Tryz.prog.make == some Rows.fnTopOfAllRow.make))=true:=by kernel_rfl
theorem ZPo:((Rows.fnTopOfAllRow.kinds == (if Rows.fnTopOfAllRow.domain.isEmpty then [] else Tryz.f4.params.toList.map λt=>match Tryz.prog.underlying t with | some (.int k)=>some k | _=>none)))=true:=by kernel_rfl
theorem ZPp:((Rows.fnTopOfAllRow.pinned == Rows.fnTopOfAllRow.pinnedBy))=true:=by kernel_rfl
theorem ZPq:((Rows.fnTopOfAllRow.veiled == (Tryz.f4.params.toList++Rows.fnTopOfAllSpec.plain.varTypes Tryz.prog++Tryz.f4.resultTypes.toList).any (Tryz.prog.veiledRec ·)))=true:=by kernel_rfl
theorem ZPr:(Rows.fnTopOfAllRow.veiledFits Tryz.prog Tryz.f4.params.toList (Tryz.f4.params.toList++Rows.fnTopOfAllSpec.plain.varTypes Tryz.prog++Tryz.f4.resultTypes.toList))=true:=by kernel_rfl
theorem ZOa {a b:Bool} (h1:a=true) (h2:b=true):(a&&b)=true:=by rw[h1,h2];rfl
theorem ZOZ:joinedFacts Tryz.prog 4 Tryz.f4 Rows.fnTopOfAllSpec Rows.fnTopOfAllRow=true:=by
 unfold joinedFacts;exact ZOa (ZOa (ZOa (ZOa (ZOa (ZOa (ZOa (ZOa (ZOa (ZOa (ZOa (ZOa (ZOa (ZOa (ZOa (ZOa (ZOa (ZOa (ZOa (ZOa (ZOa (ZOa (ZOa (ZOa (ZOa (ZOa (ZOa (ZOa (ZOa (ZOa (ZOa (ZPv) ZPw) ZPx) ZPy) ZPz) ZPA) ZPB) ZPC) ZPD) ZPE) ZO6) ZO7) ZO8) ZO9) ZPa) ZPb) ZPc) ZPd) ZPe) ZPf) ZPg) ZPh) ZPi) ZPj) ZPk) ZPl) ZPm) ZPn) ZPo) ZPp) ZPq) ZPr
end Go.Proofs.YtoijdogpgpbddaaGreatDoor
