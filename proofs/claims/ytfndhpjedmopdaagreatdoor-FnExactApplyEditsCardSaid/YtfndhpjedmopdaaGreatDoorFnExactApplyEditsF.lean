/-
  FnExactApplyEdits: what the row says of the program, fact by fact.
-/
import Derived.Test.YtfndhpjedmopdaaGreatDoorRows
import Derived.Test.YtfndhpjedmopdaaGreatDoorChecked
import Derived.KernelRfl
import Derived.JoinedOf
namespace Go.Proofs.YtfndhpjedmopdaaGreatDoor
open Go
set_option maxRecDepth 100000
theorem Ziq:(Rows.fnExactApplyEditsRow.wf (OpenSpec.ofChange Rows.fnExactApplyEditsSpec))=true:=by kernel_rfl
theorem Zid:(laidOutB Tryz.prog)=true:=by kernel_rfl
theorem Ziu:(mapsRowed Tryz.prog)=true:=by kernel_rfl
theorem Zio:(Tryz.f3.params.all (Tryz.prog.readableRec ·))=true:=by kernel_rfl
theorem Zii:(namedTie Tryz.prog Rows.fnExactApplyEditsRow.named Rows.fnExactApplyEditsSpec.vars)=true:=by kernel_rfl
theorem Zin:((Rows.fnExactApplyEditsRow.stops == []))=true:=by kernel_rfl
theorem Zik:((Tryz.prog.stops == []))=true:=by kernel_rfl
theorem Zih:((Rows.fnExactApplyEditsRow.knobs == []))=true:=by kernel_rfl
theorem Zij:((Tryz.prog.stopKnobs == []))=true:=by kernel_rfl
theorem Zir:((Rows.fnExactApplyEditsRow.inPlace == Tryz.prog.inPlace 3))=true:=by kernel_rfl
theorem Zhp:((Rows.fnExactApplyEditsRow.unfollowed == Tryz.prog.unfollowed 3))=true:=by kernel_rfl
theorem ZhX:((Rows.fnExactApplyEditsRow.recurses == Tryz.prog.recurses 3))=true:=by kernel_rfl
theorem ZhL:((Rows.fnExactApplyEditsRow.named == Tryz.prog.varsNamed 3))=true:=by kernel_rfl
theorem Zhy:((Rows.fnExactApplyEditsRow.maps == (Tryz.f3.params.toList++Rows.fnExactApplyEditsSpec.plain.varTypes Tryz.prog).any (Tryz.prog.mapsRec ·)))=true:=by kernel_rfl
theorem ZhP:((Rows.fnExactApplyEditsRow.ifaces == (Tryz.f3.params.toList++Rows.fnExactApplyEditsSpec.plain.varTypes Tryz.prog).any (Tryz.prog.ifacesRec ·)))=true:=by kernel_rfl
theorem Zg9:((Rows.fnExactApplyEditsRow.mapsOut == Tryz.prog.mapsAmong Tryz.f3.resultTypes.toList))=true:=by kernel_rfl
theorem ZhW:((Rows.fnExactApplyEditsRow.loops == (Tryz.f3.params.toList++Rows.fnExactApplyEditsSpec.plain.varTypes Tryz.prog).any (Tryz.prog.loopsFrom ·)))=true:=by kernel_rfl
theorem Zhc:((Rows.fnExactApplyEditsRow.wideKeys == (Tryz.f3.params.toList++Rows.fnExactApplyEditsSpec.plain.varTypes Tryz.prog++Tryz.f3.resultTypes.toList).any (Tryz.prog.wideKeysFrom ·)))=true:=by kernel_rfl
theorem ZhD:(Rows.fnExactApplyEditsSpec.vars.all (Tryz.prog.varReadable ·))=true:=by kernel_rfl
theorem ZhI:(Tryz.f3.resultTypes.all (fun t=>Tryz.prog.readableRec t&&decide (t<Tryz.prog.types.size)))=true:=by kernel_rfl
theorem ZhQ:((Rows.fnExactApplyEditsRow.ifacesOut == Tryz.f3.resultTypes.toList.any (Tryz.prog.ifacesRec ·)))=true:=by kernel_rfl
theorem ZhZ:((Rows.fnExactApplyEditsRow.loopsOut == Tryz.f3.resultTypes.toList.any (Tryz.prog.loopsFrom ·)))=true:=by kernel_rfl
theorem Zha:((Rows.fnExactApplyEditsRow.plainKeys == Tryz.prog.plainKeys))=true:=by kernel_rfl
theorem ZhE:(Rows.fnExactApplyEditsRow.shortTexts.isNone)=true:=by kernel_rfl
theorem Zg8:(Tryz.prog.stopsHeard)=true:=by kernel_rfl
theorem Zhs:(Tryz.prog.mayEnter)=true:=by kernel_rfl
theorem Zhm:((Rows.fnExactApplyEditsRow.lifted == Tryz.prog.liftsFinal))=true:=by kernel_rfl
theorem Zhn:((Tryz.prog.make == some Rows.fnExactApplyEditsRow.make))=true:=by kernel_rfl
theorem Zho:((Rows.fnExactApplyEditsRow.kinds == (if Rows.fnExactApplyEditsRow.domain.isEmpty then [] else Tryz.f3.params.toList.map fun t=>match Tryz.prog.underlying t with | some (.int k)=>some k | _=>none)))=true:=by kernel_rfl
theorem Zg4:((Rows.fnExactApplyEditsRow.pinned == Rows.fnExactApplyEditsRow.pinnedBy))=true:=by kernel_rfl
theorem ZhO:((Rows.fnExactApplyEditsRow.veiled == (Tryz.f3.params.toList++Rows.fnExactApplyEditsSpec.plain.varTypes Tryz.prog++Tryz.f3.resultTypes.toList).any (Tryz.prog.veiledRec ·)))=true:=by kernel_rfl
theorem ZhN:(Rows.fnExactApplyEditsRow.veiledFits Tryz.prog Tryz.f3.params.toList (Tryz.f3.params.toList++Rows.fnExactApplyEditsSpec.plain.varTypes Tryz.prog++Tryz.f3.resultTypes.toList))=true:=by kernel_rfl
theorem Zp {a b:Bool} (h1:a=true) (h2:b=true):(a&&b)=true:=by rw [h1,h2];rfl
theorem Zgf:joinedFacts Tryz.prog 3 Tryz.f3 Rows.fnExactApplyEditsSpec Rows.fnExactApplyEditsRow=true:=by
 unfold joinedFacts
 exact Zp (Zp (Zp (Zp (Zp (Zp (Zp (Zp (Zp (Zp (Zp (Zp (Zp (Zp (Zp (Zp (Zp (Zp (Zp (Zp (Zp (Zp (Zp (Zp (Zp (Zp (Zp (Zp (Zp (Zp (Zp (Ziq) Zid) Ziu) Zio) Zii) Zin) Zik) Zih) Zij) Zir) Zhp) ZhX) ZhL) Zhy) ZhP) Zg9) ZhW) Zhc) ZhD) ZhI) ZhQ) ZhZ) Zha) ZhE) Zg8) Zhs) Zhm) Zhn) Zho) Zg4) ZhO) ZhN
end Go.Proofs.YtfndhpjedmopdaaGreatDoor
