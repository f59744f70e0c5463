/-
  FnSetupTiming: what the row says of the program, fact by fact.
-/
import Derived.Test.YtjkccpcebpeadaaGreatDoorRows
import Derived.Test.YtjkccpcebpeadaaGreatDoorChecked
import Derived.KernelRfl
import Derived.JoinedOf
namespace Go.Proofs.YtjkccpcebpeadaaGreatDoor
open Go
set_option maxRecDepth 100000
theorem ZmD:(Rows.fnSetupTimingRow.wf (OpenSpec.ofChange Rows.fnSetupTimingSpec))=true:=by kernel_rfl
theorem ZmE:(laidOutB Tryz.prog)=true:=by kernel_rfl
theorem ZmF:(mapsRowed Tryz.prog)=true:=by kernel_rfl
theorem ZmG:(Tryz.f3.params.all (Tryz.prog.readableRec ·))=true:=by kernel_rfl
theorem ZmH:(namedTie Tryz.prog Rows.fnSetupTimingRow.named Rows.fnSetupTimingSpec.vars)=true:=by kernel_rfl
theorem ZmI:((Rows.fnSetupTimingRow.stops == []))=true:=by kernel_rfl
theorem ZmJ:((Tryz.prog.stops == []))=true:=by kernel_rfl
theorem ZmK:((Rows.fnSetupTimingRow.knobs == []))=true:=by kernel_rfl
theorem ZmL:((Tryz.prog.stopKnobs == []))=true:=by kernel_rfl
theorem ZmM:((Rows.fnSetupTimingRow.inPlace == Tryz.prog.inPlace 3))=true:=by kernel_rfl
theorem Zll:((Rows.fnSetupTimingRow.unfollowed == Tryz.prog.unfollowed 3))=true:=by kernel_rfl
theorem Zlm:((Rows.fnSetupTimingRow.recurses == Tryz.prog.recurses 3))=true:=by kernel_rfl
theorem Zln:((Rows.fnSetupTimingRow.named == Tryz.prog.varsNamed 3))=true:=by kernel_rfl
theorem Zlo:((Rows.fnSetupTimingRow.maps == (Tryz.f3.params.toList++Rows.fnSetupTimingSpec.plain.varTypes Tryz.prog).any (Tryz.prog.mapsRec ·)))=true:=by kernel_rfl
theorem Zlp:((Rows.fnSetupTimingRow.ifaces == (Tryz.f3.params.toList++Rows.fnSetupTimingSpec.plain.varTypes Tryz.prog).any (Tryz.prog.ifacesRec ·)))=true:=by kernel_rfl
theorem Zlq:((Rows.fnSetupTimingRow.mapsOut == Tryz.prog.mapsAmong Tryz.f3.resultTypes.toList))=true:=by kernel_rfl
theorem Zlr:((Rows.fnSetupTimingRow.loops == (Tryz.f3.params.toList++Rows.fnSetupTimingSpec.plain.varTypes Tryz.prog).any (Tryz.prog.loopsFrom ·)))=true:=by kernel_rfl
theorem Zls:((Rows.fnSetupTimingRow.wideKeys == (Tryz.f3.params.toList++Rows.fnSetupTimingSpec.plain.varTypes Tryz.prog++Tryz.f3.resultTypes.toList).any (Tryz.prog.wideKeysFrom ·)))=true:=by kernel_rfl
theorem Zlt:(Rows.fnSetupTimingSpec.vars.all (Tryz.prog.varReadable ·))=true:=by kernel_rfl
theorem Zlu:(Tryz.f3.resultTypes.all (λt=>Tryz.prog.readableRec t&&decide (t<Tryz.prog.types.size)))=true:=by kernel_rfl
theorem Zlv:((Rows.fnSetupTimingRow.ifacesOut == Tryz.f3.resultTypes.toList.any (Tryz.prog.ifacesRec ·)))=true:=by kernel_rfl
theorem Zlw:((Rows.fnSetupTimingRow.loopsOut == Tryz.f3.resultTypes.toList.any (Tryz.prog.loopsFrom ·)))=true:=by kernel_rfl
theorem Zlx:((Rows.fnSetupTimingRow.plainKeys == Tryz.prog.plainKeys))=true:=by kernel_rfl
theorem Zly:(Rows.fnSetupTimingRow.shortTexts.isNone)=true:=by kernel_rfl
theorem Zlz:(Tryz.prog.stopsHeard)=true:=by kernel_rfl
theorem ZlA:(Tryz.prog.mayEnter)=true:=by kernel_rfl
theorem ZlB:((Rows.fnSetupTimingRow.lifted == Tryz.prog.liftsFinal))=true:=by kernel_rfl
theorem ZlC:((Tryz.prog.make == some Rows.fnSetupTimingRow.make))=true:=by kernel_rfl
theorem ZlD:((Rows.fnSetupTimingRow.kinds == (if Rows.fnSetupTimingRow.domain.isEmpty then [] else Tryz.f3.params.toList.map λt=>match Tryz.prog.underlying t with | some (.int k)=>some k | _=>none)))=true:=by kernel_rfl
theorem ZlE:((Rows.fnSetupTimingRow.pinned == Rows.fnSetupTimingRow.pinnedBy))=true:=by kernel_rfl
theorem ZlF:((Rows.fnSetupTimingRow.veiled == (Tryz.f3.params.toList++Rows.fnSetupTimingSpec.plain.varTypes Tryz.prog++Tryz.f3.resultTypes.toList).any (Tryz.prog.veiledRec ·)))=true:=by kernel_rfl
theorem ZlG:(Rows.fnSetupTimingRow.veiledFits Tryz.prog Tryz.f3.params.toList (Tryz.f3.params.toList++Rows.fnSetupTimingSpec.plain.varTypes Tryz.prog++Tryz.f3.resultTypes.toList))=true:=by kernel_rfl
theorem ZJ {a b:Bool} (h1:a=true) (h2:b=true):(a&&b)=true:=by rw[h1,h2];rfl
theorem Zjk:joinedFacts Tryz.prog 3 Tryz.f3 Rows.fnSetupTimingSpec Rows.fnSetupTimingRow=true:=by
 unfold joinedFacts;exact ZJ (ZJ (ZJ (ZJ (ZJ (ZJ (ZJ (ZJ (ZJ (ZJ (ZJ (ZJ (ZJ (ZJ (ZJ (ZJ (ZJ (ZJ (ZJ (ZJ (ZJ (ZJ (ZJ (ZJ (ZJ (ZJ (ZJ (ZJ (ZJ (ZJ (ZJ (ZmD) ZmE) ZmF) ZmG) ZmH) ZmI) ZmJ) ZmK) ZmL) ZmM) Zll) Zlm) Zln) Zlo) Zlp) Zlq) Zlr) Zls) Zlt) Zlu) Zlv) Zlw) Zlx) Zly) Zlz) ZlA) ZlB) ZlC) ZlD) ZlE) ZlF) ZlG
end Go.Proofs.YtjkccpcebpeadaaGreatDoor
