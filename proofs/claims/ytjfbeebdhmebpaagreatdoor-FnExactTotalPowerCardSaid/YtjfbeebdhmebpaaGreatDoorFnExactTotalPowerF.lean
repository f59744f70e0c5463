/-
  FnExactTotalPower: what the row says of the program, fact by fact.
-/
import Derived.Test.YtjfbeebdhmebpaaGreatDoorRows
import Derived.Test.YtjfbeebdhmebpaaGreatDoorChecked
import Derived.KernelRfl
import Derived.JoinedOf
namespace Go.Proofs.YtjfbeebdhmebpaaGreatDoor
open Go
set_option maxRecDepth 100000
theorem Zzg:(Rows.fnExactTotalPowerRow.wf (OpenSpec.ofChange Rows.fnExactTotalPowerSpec))=true:=by kernel_rfl
theorem Zzh:(laidOutB Tryz.prog)=true:=by kernel_rfl
theorem Zzi:(mapsRowed Tryz.prog)=true:=by kernel_rfl
theorem Zzj:(Tryz.f7.params.all (Tryz.prog.readableRec ·))=true:=by kernel_rfl
theorem Zzk:(namedTie Tryz.prog Rows.fnExactTotalPowerRow.named Rows.fnExactTotalPowerSpec.vars)=true:=by kernel_rfl
theorem Zzl:((Rows.fnExactTotalPowerRow.stops == []))=true:=by kernel_rfl
theorem Zzm:((Tryz.prog.stops == []))=true:=by kernel_rfl
theorem Zzn:((Rows.fnExactTotalPowerRow.knobs == []))=true:=by kernel_rfl
theorem Zzo:((Tryz.prog.stopKnobs == []))=true:=by kernel_rfl
theorem Zzp:((Rows.fnExactTotalPowerRow.inPlace == Tryz.prog.inPlace 7))=true:=by kernel_rfl
theorem ZyB:((Rows.fnExactTotalPowerRow.unfollowed == Tryz.prog.unfollowed 7))=true:=by kernel_rfl
theorem ZyC:((Rows.fnExactTotalPowerRow.recurses == Tryz.prog.recurses 7))=true:=by kernel_rfl
theorem ZyD:((Rows.fnExactTotalPowerRow.named == Tryz.prog.varsNamed 7))=true:=by kernel_rfl
theorem ZyE:((Rows.fnExactTotalPowerRow.maps == (Tryz.f7.params.toList++Rows.fnExactTotalPowerSpec.plain.varTypes Tryz.prog).any (Tryz.prog.mapsRec ·)))=true:=by kernel_rfl
theorem ZyF:((Rows.fnExactTotalPowerRow.ifaces == (Tryz.f7.params.toList++Rows.fnExactTotalPowerSpec.plain.varTypes Tryz.prog).any (Tryz.prog.ifacesRec ·)))=true:=by kernel_rfl
theorem ZyG:((Rows.fnExactTotalPowerRow.mapsOut == Tryz.prog.mapsAmong Tryz.f7.resultTypes.toList))=true:=by kernel_rfl
theorem ZyH:((Rows.fnExactTotalPowerRow.loops == (Tryz.f7.params.toList++Rows.fnExactTotalPowerSpec.plain.varTypes Tryz.prog).any (Tryz.prog.loopsFrom ·)))=true:=by kernel_rfl
theorem ZyI:((Rows.fnExactTotalPowerRow.wideKeys == (Tryz.f7.params.toList++Rows.fnExactTotalPowerSpec.plain.varTypes Tryz.prog++Tryz.f7.resultTypes.toList).any (Tryz.prog.wideKeysFrom ·)))=true:=by kernel_rfl
theorem ZyJ:(Rows.fnExactTotalPowerSpec.vars.all (Tryz.prog.varReadable ·))=true:=by kernel_rfl
theorem ZyK:(Tryz.f7.resultTypes.all (fun t=>Tryz.prog.readableRec t&&decide (t<Tryz.prog.types.size)))=true:=by kernel_rfl
theorem ZyL:((Rows.fnExactTotalPowerRow.ifacesOut == Tryz.f7.resultTypes.toList.any (Tryz.prog.ifacesRec ·)))=true:=by kernel_rfl
theorem ZyM:((Rows.fnExactTotalPowerRow.loopsOut == Tryz.f7.resultTypes.toList.any (Tryz.prog.loopsFrom ·)))=true:=by kernel_rfl
theorem ZyN:((Rows.fnExactTotalPowerRow.plainKeys == Tryz.prog.plainKeys))=true:=by kernel_rfl
theorem ZyO:(Rows.fnExactTotalPowerRow.shortTexts.isNone)=true:=by kernel_rfl
theorem ZyP:(Tryz.prog.stopsHeard)=true:=by kernel_rfl
theorem ZyQ:(Tryz.prog.mayEnter)=true:=by kernel_rfl
theorem ZyR:((Rows.fnExactTotalPowerRow.lifted == Tryz.prog.liftsFinal))=true:=by kernel_rfl
theorem ZyS:((Tryz.prog.make == some Rows.fnExactTotalPowerRow.make))=true:=by kernel_rfl
theorem ZyT:((Rows.fnExactTotalPowerRow.kinds == (if Rows.fnExactTotalPowerRow.domain.isEmpty then [] else Tryz.f7.params.toList.map fun t=>match Tryz.prog.underlying t with | some (.int k)=>some k | _=>none)))=true:=by kernel_rfl
theorem ZyU:((Rows.fnExactTotalPowerRow.pinned == Rows.fnExactTotalPowerRow.pinnedBy))=true:=by kernel_rfl
theorem ZyV:((Rows.fnExactTotalPowerRow.veiled == (Tryz.f7.params.toList++Rows.fnExactTotalPowerSpec.plain.varTypes Tryz.prog++Tryz.f7.resultTypes.toList).any (Tryz.prog.veiledRec ·)))=true:=by kernel_rfl
theorem ZyW:(Rows.fnExactTotalPowerRow.veiledFits Tryz.prog Tryz.f7.params.toList (Tryz.f7.params.toList++Rows.fnExactTotalPowerSpec.plain.varTypes Tryz.prog++Tryz.f7.resultTypes.toList))=true:=by kernel_rfl
theorem ZvJ {a b:Bool} (h1:a=true) (h2:b=true):(a&&b)=true:=by rw [h1,h2];rfl
theorem ZxF:joinedFacts Tryz.prog 7 Tryz.f7 Rows.fnExactTotalPowerSpec Rows.fnExactTotalPowerRow=true:=by
 unfold joinedFacts
 exact ZvJ (ZvJ (ZvJ (ZvJ (ZvJ (ZvJ (ZvJ (ZvJ (ZvJ (ZvJ (ZvJ (ZvJ (ZvJ (ZvJ (ZvJ (ZvJ (ZvJ (ZvJ (ZvJ (ZvJ (ZvJ (ZvJ (ZvJ (ZvJ (ZvJ (ZvJ (ZvJ (ZvJ (ZvJ (ZvJ (ZvJ (Zzg) Zzh) Zzi) Zzj) Zzk) Zzl) Zzm) Zzn) Zzo) Zzp) ZyB) ZyC) ZyD) ZyE) ZyF) ZyG) ZyH) ZyI) ZyJ) ZyK) ZyL) ZyM) ZyN) ZyO) ZyP) ZyQ) ZyR) ZyS) ZyT) ZyU) ZyV) ZyW
end Go.Proofs.YtjfbeebdhmebpaaGreatDoor
