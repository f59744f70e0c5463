/-
  FnExactNetPower: what the row says of the program, fact by fact.
-/
import Derived.Test.YtjfbeebdhmebpaaGreatDoorRows
import Derived.Test.YtjfbeebdhmebpaaGreatDoorChecked
import Derived.KernelRfl
import Derived.JoinedOf
namespace Go.Proofs.YtjfbeebdhmebpaaGreatDoor
open Go
set_option maxRecDepth 100000
theorem ZzR:(Rows.fnExactNetPowerRow.wf (OpenSpec.ofChange Rows.fnExactNetPowerSpec))=true:=by kernel_rfl
theorem ZzS:(laidOutB Tryz.prog)=true:=by kernel_rfl
theorem ZzT:(mapsRowed Tryz.prog)=true:=by kernel_rfl
theorem ZzU:(Tryz.f4.params.all (Tryz.prog.readableRec ·))=true:=by kernel_rfl
theorem ZzV:(namedTie Tryz.prog Rows.fnExactNetPowerRow.named Rows.fnExactNetPowerSpec.vars)=true:=by kernel_rfl
theorem ZzW:((Rows.fnExactNetPowerRow.stops == []))=true:=by kernel_rfl
theorem ZzX:((Tryz.prog.stops == []))=true:=by kernel_rfl
theorem ZzY:((Rows.fnExactNetPowerRow.knobs == []))=true:=by kernel_rfl
theorem ZzZ:((Tryz.prog.stopKnobs == []))=true:=by kernel_rfl
theorem Zz0:((Rows.fnExactNetPowerRow.inPlace == Tryz.prog.inPlace 4))=true:=by kernel_rfl
theorem Zzq:((Rows.fnExactNetPowerRow.unfollowed == Tryz.prog.unfollowed 4))=true:=by kernel_rfl
theorem Zzr:((Rows.fnExactNetPowerRow.recurses == Tryz.prog.recurses 4))=true:=by kernel_rfl
theorem Zzs:((Rows.fnExactNetPowerRow.named == Tryz.prog.varsNamed 4))=true:=by kernel_rfl
theorem Zzt:((Rows.fnExactNetPowerRow.maps == (Tryz.f4.params.toList++Rows.fnExactNetPowerSpec.plain.varTypes Tryz.prog).any (Tryz.prog.mapsRec ·)))=true:=by kernel_rfl
theorem Zzu:((Rows.fnExactNetPowerRow.ifaces == (Tryz.f4.params.toList++Rows.fnExactNetPowerSpec.plain.varTypes Tryz.prog).any (Tryz.prog.ifacesRec ·)))=true:=by kernel_rfl
theorem Zzv:((Rows.fnExactNetPowerRow.mapsOut == Tryz.prog.mapsAmong Tryz.f4.resultTypes.toList))=true:=by kernel_rfl
theorem Zzw:((Rows.fnExactNetPowerRow.loops == (Tryz.f4.params.toList++Rows.fnExactNetPowerSpec.plain.varTypes Tryz.prog).any (Tryz.prog.loopsFrom ·)))=true:=by kernel_rfl
theorem Zzx:((Rows.fnExactNetPowerRow.wideKeys == (Tryz.f4.params.toList++Rows.fnExactNetPowerSpec.plain.varTypes Tryz.prog++Tryz.f4.resultTypes.toList).any (Tryz.prog.wideKeysFrom ·)))=true:=by kernel_rfl
theorem Zzy:(Rows.fnExactNetPowerSpec.vars.all (Tryz.prog.varReadable ·))=true:=by kernel_rfl
theorem Zzz:(Tryz.f4.resultTypes.all (fun t=>Tryz.prog.readableRec t&&decide (t<Tryz.prog.types.size)))=true:=by kernel_rfl
theorem ZzA:((Rows.fnExactNetPowerRow.ifacesOut == Tryz.f4.resultTypes.toList.any (Tryz.prog.ifacesRec ·)))=true:=by kernel_rfl
theorem ZzB:((Rows.fnExactNetPowerRow.loopsOut == Tryz.f4.resultTypes.toList.any (Tryz.prog.loopsFrom ·)))=true:=by kernel_rfl
theorem ZzC:((Rows.fnExactNetPowerRow.plainKeys == Tryz.prog.plainKeys))=true:=by kernel_rfl
theorem ZzD:(Rows.fnExactNetPowerRow.shortTexts.isNone)=true:=by kernel_rfl
theorem ZzE:(Tryz.prog.stopsHeard)=true:=by kernel_rfl
theorem ZzF:(Tryz.prog.mayEnter)=true:=by kernel_rfl
theorem ZzG:((Rows.fnExactNetPowerRow.lifted == Tryz.prog.liftsFinal))=true:=by kernel_rfl
theorem ZzH:((Tryz.prog.make == some Rows.fnExactNetPowerRow.make))=true:=by kernel_rfl
theorem ZzI:((Rows.fnExactNetPowerRow.kinds == (if Rows.fnExactNetPowerRow.domain.isEmpty then [] else Tryz.f4.params.toList.map fun t=>match Tryz.prog.underlying t with | some (.int k)=>some k | _=>none)))=true:=by kernel_rfl
theorem ZzJ:((Rows.fnExactNetPowerRow.pinned == Rows.fnExactNetPowerRow.pinnedBy))=true:=by kernel_rfl
theorem ZzK:((Rows.fnExactNetPowerRow.veiled == (Tryz.f4.params.toList++Rows.fnExactNetPowerSpec.plain.varTypes Tryz.prog++Tryz.f4.resultTypes.toList).any (Tryz.prog.veiledRec ·)))=true:=by kernel_rfl
theorem ZzL:(Rows.fnExactNetPowerRow.veiledFits Tryz.prog Tryz.f4.params.toList (Tryz.f4.params.toList++Rows.fnExactNetPowerSpec.plain.varTypes Tryz.prog++Tryz.f4.resultTypes.toList))=true:=by kernel_rfl
theorem ZvK {a b:Bool} (h1:a=true) (h2:b=true):(a&&b)=true:=by rw [h1,h2];rfl
theorem Zx4:joinedFacts Tryz.prog 4 Tryz.f4 Rows.fnExactNetPowerSpec Rows.fnExactNetPowerRow=true:=by
 unfold joinedFacts
 exact ZvK (ZvK (ZvK (ZvK (ZvK (ZvK (ZvK (ZvK (ZvK (ZvK (ZvK (ZvK (ZvK (ZvK (ZvK (ZvK (ZvK (ZvK (ZvK (ZvK (ZvK (ZvK (ZvK (ZvK (ZvK (ZvK (ZvK (ZvK (ZvK (ZvK (ZvK (ZzR) ZzS) ZzT) ZzU) ZzV) ZzW) ZzX) ZzY) ZzZ) Zz0) Zzq) Zzr) Zzs) Zzt) Zzu) Zzv) Zzw) Zzx) Zzy) Zzz) ZzA) ZzB) ZzC) ZzD) ZzE) ZzF) ZzG) ZzH) ZzI) ZzJ) ZzK) ZzL
end Go.Proofs.YtjfbeebdhmebpaaGreatDoor
