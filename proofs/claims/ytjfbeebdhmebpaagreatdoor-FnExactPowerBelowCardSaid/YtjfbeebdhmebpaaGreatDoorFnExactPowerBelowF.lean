/-
  FnExactPowerBelow: what the row says of the program, fact by fact.
-/
import Derived.Test.YtjfbeebdhmebpaaGreatDoorRows
import Derived.Test.YtjfbeebdhmebpaaGreatDoorChecked
import Derived.KernelRfl
import Derived.JoinedOf
namespace Go.Proofs.YtjfbeebdhmebpaaGreatDoor
open Go
set_option maxRecDepth 100000
theorem Zy6:(Rows.fnExactPowerBelowRow.wf (OpenSpec.ofChange Rows.fnExactPowerBelowSpec))=true:=by kernel_rfl
theorem Zy7:(laidOutB Tryz.prog)=true:=by kernel_rfl
theorem Zy8:(mapsRowed Tryz.prog)=true:=by kernel_rfl
theorem Zy9:(Tryz.f6.params.all (Tryz.prog.readableRec ·))=true:=by kernel_rfl
theorem Zza:(namedTie Tryz.prog Rows.fnExactPowerBelowRow.named Rows.fnExactPowerBelowSpec.vars)=true:=by kernel_rfl
theorem Zzb:((Rows.fnExactPowerBelowRow.stops == []))=true:=by kernel_rfl
theorem Zzc:((Tryz.prog.stops == []))=true:=by kernel_rfl
theorem Zzd:((Rows.fnExactPowerBelowRow.knobs == []))=true:=by kernel_rfl
theorem Zze:((Tryz.prog.stopKnobs == []))=true:=by kernel_rfl
theorem Zzf:((Rows.fnExactPowerBelowRow.inPlace == Tryz.prog.inPlace 6))=true:=by kernel_rfl
theorem Zyd:((Rows.fnExactPowerBelowRow.unfollowed == Tryz.prog.unfollowed 6))=true:=by kernel_rfl
theorem Zye:((Rows.fnExactPowerBelowRow.recurses == Tryz.prog.recurses 6))=true:=by kernel_rfl
theorem Zyf:((Rows.fnExactPowerBelowRow.named == Tryz.prog.varsNamed 6))=true:=by kernel_rfl
theorem Zyg:((Rows.fnExactPowerBelowRow.maps == (Tryz.f6.params.toList++Rows.fnExactPowerBelowSpec.plain.varTypes Tryz.prog).any (Tryz.prog.mapsRec ·)))=true:=by kernel_rfl
theorem Zyh:((Rows.fnExactPowerBelowRow.ifaces == (Tryz.f6.params.toList++Rows.fnExactPowerBelowSpec.plain.varTypes Tryz.prog).any (Tryz.prog.ifacesRec ·)))=true:=by kernel_rfl
theorem Zyi:((Rows.fnExactPowerBelowRow.mapsOut == Tryz.prog.mapsAmong Tryz.f6.resultTypes.toList))=true:=by kernel_rfl
theorem Zyj:((Rows.fnExactPowerBelowRow.loops == (Tryz.f6.params.toList++Rows.fnExactPowerBelowSpec.plain.varTypes Tryz.prog).any (Tryz.prog.loopsFrom ·)))=true:=by kernel_rfl
theorem Zyk:((Rows.fnExactPowerBelowRow.wideKeys == (Tryz.f6.params.toList++Rows.fnExactPowerBelowSpec.plain.varTypes Tryz.prog++Tryz.f6.resultTypes.toList).any (Tryz.prog.wideKeysFrom ·)))=true:=by kernel_rfl
theorem Zyl:(Rows.fnExactPowerBelowSpec.vars.all (Tryz.prog.varReadable ·))=true:=by kernel_rfl
theorem Zym:(Tryz.f6.resultTypes.all (fun t=>Tryz.prog.readableRec t&&decide (t<Tryz.prog.types.size)))=true:=by kernel_rfl
theorem Zyn:((Rows.fnExactPowerBelowRow.ifacesOut == Tryz.f6.resultTypes.toList.any (Tryz.prog.ifacesRec ·)))=true:=by kernel_rfl
theorem Zyo:((Rows.fnExactPowerBelowRow.loopsOut == Tryz.f6.resultTypes.toList.any (Tryz.prog.loopsFrom ·)))=true:=by kernel_rfl
theorem Zyp:((Rows.fnExactPowerBelowRow.plainKeys == Tryz.prog.plainKeys))=true:=by kernel_rfl
theorem Zyq:(Rows.fnExactPowerBelowRow.shortTexts.isNone)=true:=by kernel_rfl
theorem Zyr:(Tryz.prog.stopsHeard)=true:=by kernel_rfl
theorem Zys:(Tryz.prog.mayEnter)=true:=by kernel_rfl
theorem Zyt:((Rows.fnExactPowerBelowRow.lifted == Tryz.prog.liftsFinal))=true:=by kernel_rfl
theorem Zyu:((Tryz.prog.make == some Rows.fnExactPowerBelowRow.make))=true:=by kernel_rfl
theorem Zyv:((Rows.fnExactPowerBelowRow.kinds == (if Rows.fnExactPowerBelowRow.domain.isEmpty then [] else Tryz.f6.params.toList.map fun t=>match Tryz.prog.underlying t with | some (.int k)=>some k | _=>none)))=true:=by kernel_rfl
theorem Zyw:((Rows.fnExactPowerBelowRow.pinned == Rows.fnExactPowerBelowRow.pinnedBy))=true:=by kernel_rfl
theorem Zyx:((Rows.fnExactPowerBelowRow.veiled == (Tryz.f6.params.toList++Rows.fnExactPowerBelowSpec.plain.varTypes Tryz.prog++Tryz.f6.resultTypes.toList).any (Tryz.prog.veiledRec ·)))=true:=by kernel_rfl
theorem Zyy:(Rows.fnExactPowerBelowRow.veiledFits Tryz.prog Tryz.f6.params.toList (Tryz.f6.params.toList++Rows.fnExactPowerBelowSpec.plain.varTypes Tryz.prog++Tryz.f6.resultTypes.toList))=true:=by kernel_rfl
theorem ZvI {a b:Bool} (h1:a=true) (h2:b=true):(a&&b)=true:=by rw [h1,h2];rfl
theorem ZxD:joinedFacts Tryz.prog 6 Tryz.f6 Rows.fnExactPowerBelowSpec Rows.fnExactPowerBelowRow=true:=by
 unfold joinedFacts
 exact ZvI (ZvI (ZvI (ZvI (ZvI (ZvI (ZvI (ZvI (ZvI (ZvI (ZvI (ZvI (ZvI (ZvI (ZvI (ZvI (ZvI (ZvI (ZvI (ZvI (ZvI (ZvI (ZvI (ZvI (ZvI (ZvI (ZvI (ZvI (ZvI (ZvI (ZvI (Zy6) Zy7) Zy8) Zy9) Zza) Zzb) Zzc) Zzd) Zze) Zzf) Zyd) Zye) Zyf) Zyg) Zyh) Zyi) Zyj) Zyk) Zyl) Zym) Zyn) Zyo) Zyp) Zyq) Zyr) Zys) Zyt) Zyu) Zyv) Zyw) Zyx) Zyy
end Go.Proofs.YtjfbeebdhmebpaaGreatDoor
