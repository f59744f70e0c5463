/-
  FnPower: what the row says of the program, fact by fact.
-/
import Derived.Test.YtioiomifapgimaaGreatDoorRows
import Derived.Test.YtioiomifapgimaaGreatDoorChecked
import Derived.KernelRfl
import Derived.JoinedOf
namespace Go.Proofs.YtioiomifapgimaaGreatDoor
open Go
set_option maxRecDepth 100000
theorem ZF3:(Rows.fnPowerRow.wf (OpenSpec.ofChange Rows.fnPowerSpec))=true:=by kernel_rfl
theorem ZF4:(laidOutB Tryz.prog)=true:=by kernel_rfl
theorem ZF5:(mapsRowed Tryz.prog)=true:=by kernel_rfl
theorem ZF6:(Tryz.f3.params.all (Tryz.prog.readableRec ·))=true:=by kernel_rfl
theorem ZF7:(namedTie Tryz.prog Rows.fnPowerRow.named Rows.fnPowerSpec.vars)=true:=by kernel_rfl
theorem ZF8:((Rows.fnPowerRow.stops == []))=true:=by kernel_rfl
theorem ZF9:((Tryz.prog.stops == []))=true:=by kernel_rfl
theorem ZGa:((Rows.fnPowerRow.knobs == []))=true:=by kernel_rfl
theorem ZGb:((Tryz.prog.stopKnobs == []))=true:=by kernel_rfl
theorem ZGc:((Rows.fnPowerRow.inPlace == Tryz.prog.inPlace 3))=true:=by kernel_rfl
theorem ZFz:((Rows.fnPowerRow.unfollowed == Tryz.prog.unfollowed 3))=true:=by kernel_rfl
theorem ZFA:((Rows.fnPowerRow.recurses == Tryz.prog.recurses 3))=true:=by kernel_rfl
theorem ZFB:((Rows.fnPowerRow.named == Tryz.prog.varsNamed 3))=true:=by kernel_rfl
theorem ZFD:((Rows.fnPowerRow.maps == (Tryz.f3.params.toList++Rows.fnPowerSpec.plain.varTypes Tryz.prog).any (Tryz.prog.mapsRec ·)))=true:=by kernel_rfl
theorem ZFE:((Rows.fnPowerRow.ifaces == (Tryz.f3.params.toList++Rows.fnPowerSpec.plain.varTypes Tryz.prog).any (Tryz.prog.ifacesRec ·)))=true:=by kernel_rfl
theorem ZFF:((Rows.fnPowerRow.mapsOut == Tryz.prog.mapsAmong Tryz.f3.resultTypes.toList))=true:=by kernel_rfl
theorem ZFG:((Rows.fnPowerRow.loops == (Tryz.f3.params.toList++Rows.fnPowerSpec.plain.varTypes Tryz.prog).any (Tryz.prog.loopsFrom ·)))=true:=by kernel_rfl
theorem ZFH:((Rows.fnPowerRow.wideKeys == (Tryz.f3.params.toList++Rows.fnPowerSpec.plain.varTypes Tryz.prog++Tryz.f3.resultTypes.toList).any (Tryz.prog.wideKeysFrom ·)))=true:=by kernel_rfl
theorem ZFI:(Rows.fnPowerSpec.vars.all (Tryz.prog.varReadable ·))=true:=by kernel_rfl
theorem ZFJ:(Tryz.f3.resultTypes.all (λt=>Tryz.prog.readableRec t&&decide (t<Tryz.prog.types.size)))=true:=by kernel_rfl
theorem ZFK:((Rows.fnPowerRow.ifacesOut == Tryz.f3.resultTypes.toList.any (Tryz.prog.ifacesRec ·)))=true:=by kernel_rfl
theorem ZFL:((Rows.fnPowerRow.loopsOut == Tryz.f3.resultTypes.toList.any (Tryz.prog.loopsFrom ·)))=true:=by kernel_rfl
theorem ZFM:((Rows.fnPowerRow.plainKeys == Tryz.prog.plainKeys))=true:=by kernel_rfl
theorem ZFN:(Rows.fnPowerRow.shortTexts.isNone)=true:=by kernel_rfl
theorem ZFO:(Tryz.prog.stopsHeard)=true:=by kernel_rfl
theorem ZFP:(Tryz.prog.mayEnter)=true:=by kernel_rfl
theorem ZFQ:((Rows.fnPowerRow.lifted == Tryz.prog.liftsFinal))=true:=by kernel_rfl
theorem ZFR:((Tryz.prog.make == some Rows.fnPowerRow.make))=true:=by kernel_rfl
theorem ZFS:((Rows.fnPowerRow.kinds == (if Rows.fnPowerRow.domain.isEmpty then [] else Tryz.f3.params.toList.map λt=>match Tryz.prog.underlying t with | some (.int k)=>some k | _=>none)))=true:=by kernel_rfl
theorem ZFT:((Rows.fnPowerRow.pinned == Rows.fnPowerRow.pinnedBy))=true:=by kernel_rfl
theorem ZFU:((Rows.fnPowerRow.veiled == (Tryz.f3.params.toList++Rows.fnPowerSpec.plain.varTypes Tryz.prog++Tryz.f3.resultTypes.toList).any (Tryz.prog.veiledRec ·)))=true:=by kernel_rfl
theorem ZFV:(Rows.fnPowerRow.veiledFits Tryz.prog Tryz.f3.params.toList (Tryz.f3.params.toList++Rows.fnPowerSpec.plain.varTypes Tryz.prog++Tryz.f3.resultTypes.toList))=true:=by kernel_rfl
theorem ZDZ {a b:Bool} (h1:a=true) (h2:b=true):(a&&b)=true:=by rw[h1,h2];rfl
theorem ZE9:joinedFacts Tryz.prog 3 Tryz.f3 Rows.fnPowerSpec Rows.fnPowerRow=true:=by
 unfold joinedFacts;exact ZDZ (ZDZ (ZDZ (ZDZ (ZDZ (ZDZ (ZDZ (ZDZ (ZDZ (ZDZ (ZDZ (ZDZ (ZDZ (ZDZ (ZDZ (ZDZ (ZDZ (ZDZ (ZDZ (ZDZ (ZDZ (ZDZ (ZDZ (ZDZ (ZDZ (ZDZ (ZDZ (ZDZ (ZDZ (ZDZ (ZDZ (ZF3) ZF4) ZF5) ZF6) ZF7) ZF8) ZF9) ZGa) ZGb) ZGc) ZFz) ZFA) ZFB) ZFD) ZFE) ZFF) ZFG) ZFH) ZFI) ZFJ) ZFK) ZFL) ZFM) ZFN) ZFO) ZFP) ZFQ) ZFR) ZFS) ZFT) ZFU) ZFV
end Go.Proofs.YtioiomifapgimaaGreatDoor
