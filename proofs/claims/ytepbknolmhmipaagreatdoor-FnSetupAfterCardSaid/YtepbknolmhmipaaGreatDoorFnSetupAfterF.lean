/-
  FnSetupAfter: what the row says of the program, fact by fact.
-/
import Derived.Test.YtepbknolmhmipaaGreatDoorRows
import Derived.Test.YtepbknolmhmipaaGreatDoorChecked
import Derived.KernelRfl
import Derived.JoinedOf
namespace Go.Proofs.YtepbknolmhmipaaGreatDoor
open Go
set_option maxRecDepth 100000
theorem ZGY:(Rows.fnSetupAfterRow.wf (OpenSpec.ofChange Rows.fnSetupAfterSpec))=true:=by kernel_rfl
theorem ZGZ:(laidOutB Tryz.prog)=true:=by kernel_rfl
theorem ZG0:(mapsRowed Tryz.prog)=true:=by kernel_rfl
theorem ZG1:(Tryz.f4.params.all (Tryz.prog.readableRec ·))=true:=by kernel_rfl
theorem ZG2:(namedTie Tryz.prog Rows.fnSetupAfterRow.named Rows.fnSetupAfterSpec.vars)=true:=by kernel_rfl
theorem ZG3:((Rows.fnSetupAfterRow.stops == []))=true:=by kernel_rfl
theorem ZG4:((Tryz.prog.stops == []))=true:=by kernel_rfl
theorem ZG5:((Rows.fnSetupAfterRow.knobs == []))=true:=by kernel_rfl
theorem ZG6:((Tryz.prog.stopKnobs == []))=true:=by kernel_rfl
theorem ZG7:((Rows.fnSetupAfterRow.inPlace == Tryz.prog.inPlace 4))=true:=by kernel_rfl
theorem ZGj:((Rows.fnSetupAfterRow.unfollowed == Tryz.prog.unfollowed 4))=true:=by kernel_rfl
theorem ZGk:((Rows.fnSetupAfterRow.recurses == Tryz.prog.recurses 4))=true:=by kernel_rfl
theorem ZGl:((Rows.fnSetupAfterRow.named == Tryz.prog.varsNamed 4))=true:=by kernel_rfl
theorem ZGm:((Rows.fnSetupAfterRow.maps == (Tryz.f4.params.toList++Rows.fnSetupAfterSpec.plain.varTypes Tryz.prog).any (Tryz.prog.mapsRec ·)))=true:=by kernel_rfl
theorem ZGn:((Rows.fnSetupAfterRow.ifaces == (Tryz.f4.params.toList++Rows.fnSetupAfterSpec.plain.varTypes Tryz.prog).any (Tryz.prog.ifacesRec ·)))=true:=by kernel_rfl
theorem ZGo:((Rows.fnSetupAfterRow.mapsOut == Tryz.prog.mapsAmong Tryz.f4.resultTypes.toList))=true:=by kernel_rfl
theorem ZGp:((Rows.fnSetupAfterRow.loops == (Tryz.f4.params.toList++Rows.fnSetupAfterSpec.plain.varTypes Tryz.prog).any (Tryz.prog.loopsFrom ·)))=true:=by kernel_rfl
theorem ZGq:((Rows.fnSetupAfterRow.wideKeys == (Tryz.f4.params.toList++Rows.fnSetupAfterSpec.plain.varTypes Tryz.prog++Tryz.f4.resultTypes.toList).any (Tryz.prog.wideKeysFrom ·)))=true:=by kernel_rfl
theorem ZGr:(Rows.fnSetupAfterSpec.vars.all (Tryz.prog.varReadable ·))=true:=by kernel_rfl
theorem ZGs:(Tryz.f4.resultTypes.all (λt=>Tryz.prog.readableRec t&&decide (t<Tryz.prog.types.size)))=true:=by kernel_rfl
theorem ZGt:((Rows.fnSetupAfterRow.ifacesOut == Tryz.f4.resultTypes.toList.any (Tryz.prog.ifacesRec ·)))=true:=by kernel_rfl
theorem ZGu:((Rows.fnSetupAfterRow.loopsOut == Tryz.f4.resultTypes.toList.any (Tryz.prog.loopsFrom ·)))=true:=by kernel_rfl
theorem ZGv:((Rows.fnSetupAfterRow.plainKeys == Tryz.prog.plainKeys))=true:=by kernel_rfl
theorem ZGw:(Rows.fnSetupAfterRow.shortTexts.isNone)=true:=by kernel_rfl
theorem ZGx:(Tryz.prog.stopsHeard)=true:=by kernel_rfl
theorem ZGy:(Tryz.prog.mayEnter)=true:=by kernel_rfl
theorem ZGz:((Rows.fnSetupAfterRow.lifted == Tryz.prog.liftsFinal))=true:=by kernel_rfl
theorem ZGA:((Tryz.prog.make == some Rows.fnSetupAfterRow.make))=true:=by kernel_rfl
theorem ZGB:((Rows.fnSetupAfterRow.kinds == (if Rows.fnSetupAfterRow.domain.isEmpty then [] else Tryz.f4.params.toList.map λt=>match Tryz.prog.underlying t with | some (.int k)=>some k | _=>none)))=true:=by kernel_rfl
theorem ZGC:((Rows.fnSetupAfterRow.pinned == Rows.fnSetupAfterRow.pinnedBy))=true:=by kernel_rfl
theorem ZGD:((Rows.fnSetupAfterRow.veiled == (Tryz.f4.params.toList++Rows.fnSetupAfterSpec.plain.varTypes Tryz.prog++Tryz.f4.resultTypes.toList).any (Tryz.prog.veiledRec ·)))=true:=by kernel_rfl
theorem ZGE:(Rows.fnSetupAfterRow.veiledFits Tryz.prog Tryz.f4.params.toList (Tryz.f4.params.toList++Rows.fnSetupAfterSpec.plain.varTypes Tryz.prog++Tryz.f4.resultTypes.toList))=true:=by kernel_rfl
theorem ZAo {a b:Bool} (h1:a=true) (h2:b=true):(a&&b)=true:=by rw[h1,h2];rfl
theorem ZFz:joinedFacts Tryz.prog 4 Tryz.f4 Rows.fnSetupAfterSpec Rows.fnSetupAfterRow=true:=by
 unfold joinedFacts;exact ZAo (ZAo (ZAo (ZAo (ZAo (ZAo (ZAo (ZAo (ZAo (ZAo (ZAo (ZAo (ZAo (ZAo (ZAo (ZAo (ZAo (ZAo (ZAo (ZAo (ZAo (ZAo (ZAo (ZAo (ZAo (ZAo (ZAo (ZAo (ZAo (ZAo (ZAo (ZGY) ZGZ) ZG0) ZG1) ZG2) ZG3) ZG4) ZG5) ZG6) ZG7) ZGj) ZGk) ZGl) ZGm) ZGn) ZGo) ZGp) ZGq) ZGr) ZGs) ZGt) ZGu) ZGv) ZGw) ZGx) ZGy) ZGz) ZGA) ZGB) ZGC) ZGD) ZGE
end Go.Proofs.YtepbknolmhmipaaGreatDoor
