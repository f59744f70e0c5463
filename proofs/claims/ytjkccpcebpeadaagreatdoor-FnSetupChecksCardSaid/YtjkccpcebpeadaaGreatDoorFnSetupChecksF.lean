/-
  FnSetupChecks: what the row says of the program, fact by fact.
-/
import Derived.Test.YtjkccpcebpeadaaGreatDoorRows
import Derived.Test.YtjkccpcebpeadaaGreatDoorChecked
import Derived.KernelRfl
import Derived.JoinedOf
namespace Go.Proofs.YtjkccpcebpeadaaGreatDoor
open Go
set_option maxRecDepth 100000
theorem ZKF:(Rows.fnSetupChecksRow.wf (OpenSpec.ofChange Rows.fnSetupChecksSpec))=true:=by kernel_rfl
theorem ZKG:(laidOutB Tryz.prog)=true:=by kernel_rfl
theorem ZKH:(mapsRowed Tryz.prog)=true:=by kernel_rfl
theorem ZKI:(Tryz.f4.params.all (Tryz.prog.readableRec ·))=true:=by kernel_rfl
theorem ZKJ:(namedTie Tryz.prog Rows.fnSetupChecksRow.named Rows.fnSetupChecksSpec.vars)=true:=by kernel_rfl
theorem ZKK:((Rows.fnSetupChecksRow.stops == []))=true:=by kernel_rfl
theorem ZKL:((Tryz.prog.stops == []))=true:=by kernel_rfl
theorem ZKM:((Rows.fnSetupChecksRow.knobs == []))=true:=by kernel_rfl
theorem ZKN:((Tryz.prog.stopKnobs == []))=true:=by kernel_rfl
theorem ZKO:((Rows.fnSetupChecksRow.inPlace == Tryz.prog.inPlace 4))=true:=by kernel_rfl
theorem ZKd:((Rows.fnSetupChecksRow.unfollowed == Tryz.prog.unfollowed 4))=true:=by kernel_rfl
theorem ZKe:((Rows.fnSetupChecksRow.recurses == Tryz.prog.recurses 4))=true:=by kernel_rfl
theorem ZKf:((Rows.fnSetupChecksRow.named == Tryz.prog.varsNamed 4))=true:=by kernel_rfl
theorem ZKg:((Rows.fnSetupChecksRow.maps == (Tryz.f4.params.toList++Rows.fnSetupChecksSpec.plain.varTypes Tryz.prog).any (Tryz.prog.mapsRec ·)))=true:=by kernel_rfl
theorem ZKh:((Rows.fnSetupChecksRow.ifaces == (Tryz.f4.params.toList++Rows.fnSetupChecksSpec.plain.varTypes Tryz.prog).any (Tryz.prog.ifacesRec ·)))=true:=by kernel_rfl
theorem ZKi:((Rows.fnSetupChecksRow.mapsOut == Tryz.prog.mapsAmong Tryz.f4.resultTypes.toList))=true:=by kernel_rfl
theorem ZKj:((Rows.fnSetupChecksRow.loops == (Tryz.f4.params.toList++Rows.fnSetupChecksSpec.plain.varTypes Tryz.prog).any (Tryz.prog.loopsFrom ·)))=true:=by kernel_rfl
theorem ZKk:((Rows.fnSetupChecksRow.wideKeys == (Tryz.f4.params.toList++Rows.fnSetupChecksSpec.plain.varTypes Tryz.prog++Tryz.f4.resultTypes.toList).any (Tryz.prog.wideKeysFrom ·)))=true:=by kernel_rfl
theorem ZKl:(Rows.fnSetupChecksSpec.vars.all (Tryz.prog.varReadable ·))=true:=by kernel_rfl
theorem ZKm:(Tryz.f4.resultTypes.all (λt=>Tryz.prog.readableRec t&&decide (t<Tryz.prog.types.size)))=true:=by kernel_rfl
theorem ZKn:((Rows.fnSetupChecksRow.ifacesOut == Tryz.f4.resultTypes.toList.any (Tryz.prog.ifacesRec ·)))=true:=by kernel_rfl
theorem ZKo:((Rows.fnSetupChecksRow.loopsOut == Tryz.f4.resultTypes.toList.any (Tryz.prog.loopsFrom ·)))=true:=by kernel_rfl
theorem ZKp:((Rows.fnSetupChecksRow.plainKeys == Tryz.prog.plainKeys))=true:=by kernel_rfl
theorem ZKq:(Rows.fnSetupChecksRow.shortTexts.isNone)=true:=by kernel_rfl
theorem ZKr:(Tryz.prog.stopsHeard)=true:=by kernel_rfl
theorem ZKs:(Tryz.prog.mayEnter)=true:=by kernel_rfl
theorem ZKt:((Rows.fnSetupChecksRow.lifted == Tryz.prog.liftsFinal))=true:=by kernel_rfl
theorem ZKu:((Tryz.prog.make == some Rows.fnSetupChecksRow.make))=true:=by kernel_rfl
theorem ZKv:((Rows.fnSetupChecksRow.kinds == (if Rows.fnSetupChecksRow.domain.isEmpty then [] else Tryz.f4.params.toList.map λt=>match Tryz.prog.underlying t with | some (.int k)=>some k | _=>none)))=true:=by kernel_rfl
theorem ZKw:((Rows.fnSetupChecksRow.pinned == Rows.fnSetupChecksRow.pinnedBy))=true:=by kernel_rfl
theorem ZKx:((Rows.fnSetupChecksRow.veiled == (Tryz.f4.params.toList++Rows.fnSetupChecksSpec.plain.varTypes Tryz.prog++Tryz.f4.resultTypes.toList).any (Tryz.prog.veiledRec ·)))=true:=by kernel_rfl
theorem ZKy:(Rows.fnSetupChecksRow.veiledFits Tryz.prog Tryz.f4.params.toList (Tryz.f4.params.toList++Rows.fnSetupChecksSpec.plain.varTypes Tryz.prog++Tryz.f4.resultTypes.toList))=true:=by kernel_rfl
theorem ZIq {a b:Bool} (h1:a=true) (h2:b=true):(a&&b)=true:=by rw[h1,h2];rfl
theorem ZJS:joinedFacts Tryz.prog 4 Tryz.f4 Rows.fnSetupChecksSpec Rows.fnSetupChecksRow=true:=by
 unfold joinedFacts;exact ZIq (ZIq (ZIq (ZIq (ZIq (ZIq (ZIq (ZIq (ZIq (ZIq (ZIq (ZIq (ZIq (ZIq (ZIq (ZIq (ZIq (ZIq (ZIq (ZIq (ZIq (ZIq (ZIq (ZIq (ZIq (ZIq (ZIq (ZIq (ZIq (ZIq (ZIq (ZKF) ZKG) ZKH) ZKI) ZKJ) ZKK) ZKL) ZKM) ZKN) ZKO) ZKd) ZKe) ZKf) ZKg) ZKh) ZKi) ZKj) ZKk) ZKl) ZKm) ZKn) ZKo) ZKp) ZKq) ZKr) ZKs) ZKt) ZKu) ZKv) ZKw) ZKx) ZKy
end Go.Proofs.YtjkccpcebpeadaaGreatDoor
