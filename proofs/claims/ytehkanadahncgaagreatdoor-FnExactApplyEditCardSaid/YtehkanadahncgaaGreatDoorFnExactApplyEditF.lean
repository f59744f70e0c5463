/-
  FnExactApplyEdit: what the row says of the program, fact by fact.
-/
import Derived.Test.YtehkanadahncgaaGreatDoorRows
import Derived.Test.YtehkanadahncgaaGreatDoorChecked
import Derived.KernelRfl
import Derived.JoinedOf
namespace Go.Proofs.YtehkanadahncgaaGreatDoor
open Go
set_option maxRecDepth 100000
theorem ZiK:(Rows.fnExactApplyEditRow.wf (OpenSpec.ofChange Rows.fnExactApplyEditSpec))=true:=by kernel_rfl
theorem ZiG:(laidOutB Tryz.prog)=true:=by kernel_rfl
theorem Zin:(mapsRowed Tryz.prog)=true:=by kernel_rfl
theorem Ziw:(Tryz.f4.params.all (Tryz.prog.readableRec ·))=true:=by kernel_rfl
theorem ZiH:(namedTie Tryz.prog Rows.fnExactApplyEditRow.named Rows.fnExactApplyEditSpec.vars)=true:=by kernel_rfl
theorem Zij:((Rows.fnExactApplyEditRow.stops == []))=true:=by kernel_rfl
theorem ZiE:((Tryz.prog.stops == []))=true:=by kernel_rfl
theorem ZiF:((Rows.fnExactApplyEditRow.knobs == []))=true:=by kernel_rfl
theorem Zio:((Tryz.prog.stopKnobs == []))=true:=by kernel_rfl
theorem ZiI:((Rows.fnExactApplyEditRow.inPlace == Tryz.prog.inPlace 4))=true:=by kernel_rfl
theorem Zht:((Rows.fnExactApplyEditRow.unfollowed == Tryz.prog.unfollowed 4))=true:=by kernel_rfl
theorem ZhH:((Rows.fnExactApplyEditRow.recurses == Tryz.prog.recurses 4))=true:=by kernel_rfl
theorem ZhB:((Rows.fnExactApplyEditRow.named == Tryz.prog.varsNamed 4))=true:=by kernel_rfl
theorem ZhT:((Rows.fnExactApplyEditRow.maps == (Tryz.f4.params.toList++Rows.fnExactApplyEditSpec.plain.varTypes Tryz.prog).any (Tryz.prog.mapsRec ·)))=true:=by kernel_rfl
theorem Zhs:((Rows.fnExactApplyEditRow.ifaces == (Tryz.f4.params.toList++Rows.fnExactApplyEditSpec.plain.varTypes Tryz.prog).any (Tryz.prog.ifacesRec ·)))=true:=by kernel_rfl
theorem Zhx:((Rows.fnExactApplyEditRow.mapsOut == Tryz.prog.mapsAmong Tryz.f4.resultTypes.toList))=true:=by kernel_rfl
theorem ZhO:((Rows.fnExactApplyEditRow.loops == (Tryz.f4.params.toList++Rows.fnExactApplyEditSpec.plain.varTypes Tryz.prog).any (Tryz.prog.loopsFrom ·)))=true:=by kernel_rfl
theorem Zhv:((Rows.fnExactApplyEditRow.wideKeys == (Tryz.f4.params.toList++Rows.fnExactApplyEditSpec.plain.varTypes Tryz.prog++Tryz.f4.resultTypes.toList).any (Tryz.prog.wideKeysFrom ·)))=true:=by kernel_rfl
theorem ZhR:(Rows.fnExactApplyEditSpec.vars.all (Tryz.prog.varReadable ·))=true:=by kernel_rfl
theorem ZhF:(Tryz.f4.resultTypes.all (fun t=>Tryz.prog.readableRec t&&decide (t<Tryz.prog.types.size)))=true:=by kernel_rfl
theorem ZhW:((Rows.fnExactApplyEditRow.ifacesOut == Tryz.f4.resultTypes.toList.any (Tryz.prog.ifacesRec ·)))=true:=by kernel_rfl
theorem ZhX:((Rows.fnExactApplyEditRow.loopsOut == Tryz.f4.resultTypes.toList.any (Tryz.prog.loopsFrom ·)))=true:=by kernel_rfl
theorem ZhI:((Rows.fnExactApplyEditRow.plainKeys == Tryz.prog.plainKeys))=true:=by kernel_rfl
theorem ZhD:(Rows.fnExactApplyEditRow.shortTexts.isNone)=true:=by kernel_rfl
theorem ZhM:(Tryz.prog.stopsHeard)=true:=by kernel_rfl
theorem ZhC:(Tryz.prog.mayEnter)=true:=by kernel_rfl
theorem ZhG:((Rows.fnExactApplyEditRow.lifted == Tryz.prog.liftsFinal))=true:=by kernel_rfl
theorem ZhN:((Tryz.prog.make == some Rows.fnExactApplyEditRow.make))=true:=by kernel_rfl
theorem Zhz:((Rows.fnExactApplyEditRow.kinds == (if Rows.fnExactApplyEditRow.domain.isEmpty then [] else Tryz.f4.params.toList.map fun t=>match Tryz.prog.underlying t with | some (.int k)=>some k | _=>none)))=true:=by kernel_rfl
theorem ZhL:((Rows.fnExactApplyEditRow.pinned == Rows.fnExactApplyEditRow.pinnedBy))=true:=by kernel_rfl
theorem ZhV:((Rows.fnExactApplyEditRow.veiled == (Tryz.f4.params.toList++Rows.fnExactApplyEditSpec.plain.varTypes Tryz.prog++Tryz.f4.resultTypes.toList).any (Tryz.prog.veiledRec ·)))=true:=by kernel_rfl
theorem ZhS:(Rows.fnExactApplyEditRow.veiledFits Tryz.prog Tryz.f4.params.toList (Tryz.f4.params.toList++Rows.fnExactApplyEditSpec.plain.varTypes Tryz.prog++Tryz.f4.resultTypes.toList))=true:=by kernel_rfl
theorem Zp {a b:Bool} (h1:a=true) (h2:b=true):(a&&b)=true:=by rw [h1,h2];rfl
theorem Zgj:joinedFacts Tryz.prog 4 Tryz.f4 Rows.fnExactApplyEditSpec Rows.fnExactApplyEditRow=true:=by
 unfold joinedFacts
 exact Zp (Zp (Zp (Zp (Zp (Zp (Zp (Zp (Zp (Zp (Zp (Zp (Zp (Zp (Zp (Zp (Zp (Zp (Zp (Zp (Zp (Zp (Zp (Zp (Zp (Zp (Zp (Zp (Zp (Zp (Zp (ZiK) ZiG) Zin) Ziw) ZiH) Zij) ZiE) ZiF) Zio) ZiI) Zht) ZhH) ZhB) ZhT) Zhs) Zhx) ZhO) Zhv) ZhR) ZhF) ZhW) ZhX) ZhI) ZhD) ZhM) ZhC) ZhG) ZhN) Zhz) ZhL) ZhV) ZhS
end Go.Proofs.YtehkanadahncgaaGreatDoor
