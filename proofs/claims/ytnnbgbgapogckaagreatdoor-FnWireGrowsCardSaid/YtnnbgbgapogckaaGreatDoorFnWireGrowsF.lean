/-
  FnWireGrows: what the row says of the program, fact by fact.
-/
import Derived.Test.YtnnbgbgapogckaaGreatDoorRows
import Derived.Test.YtnnbgbgapogckaaGreatDoorChecked
import Derived.KernelRfl
import Derived.JoinedOf
namespace Go.Proofs.YtnnbgbgapogckaaGreatDoor
open Go
set_option maxRecDepth 100000
theorem ZE1:(Rows.fnWireGrowsRow.wf (OpenSpec.ofChange Rows.fnWireGrowsSpec))=true:=by kernel_rfl
theorem ZE2:(laidOutB Tryz.prog)=true:=by kernel_rfl
theorem ZE3:(mapsRowed Tryz.prog)=true:=by kernel_rfl
theorem ZE4:(Tryz.f4.params.all (Tryz.prog.readableRec ·))=true:=by kernel_rfl
theorem ZE5:(namedTie Tryz.prog Rows.fnWireGrowsRow.named Rows.fnWireGrowsSpec.vars)=true:=by kernel_rfl
theorem ZE6:((Rows.fnWireGrowsRow.stops == []))=true:=by kernel_rfl
theorem ZE7:((Tryz.prog.stops == []))=true:=by kernel_rfl
theorem ZE8:((Rows.fnWireGrowsRow.knobs == []))=true:=by kernel_rfl
theorem ZE9:((Tryz.prog.stopKnobs == []))=true:=by kernel_rfl
theorem ZFa:((Rows.fnWireGrowsRow.inPlace == Tryz.prog.inPlace 4))=true:=by kernel_rfl
theorem ZEB:((Rows.fnWireGrowsRow.unfollowed == Tryz.prog.unfollowed 4))=true:=by kernel_rfl
theorem ZEC:((Rows.fnWireGrowsRow.recurses == Tryz.prog.recurses 4))=true:=by kernel_rfl
theorem ZED:((Rows.fnWireGrowsRow.named == Tryz.prog.varsNamed 4))=true:=by kernel_rfl
theorem ZEE:((Rows.fnWireGrowsRow.maps == (Tryz.f4.params.toList++Rows.fnWireGrowsSpec.plain.varTypes Tryz.prog).any (Tryz.prog.mapsRec ·)))=true:=by kernel_rfl
theorem ZEF:((Rows.fnWireGrowsRow.ifaces == (Tryz.f4.params.toList++Rows.fnWireGrowsSpec.plain.varTypes Tryz.prog).any (Tryz.prog.ifacesRec ·)))=true:=by kernel_rfl
theorem ZEG:((Rows.fnWireGrowsRow.mapsOut == Tryz.prog.mapsAmong Tryz.f4.resultTypes.toList))=true:=by kernel_rfl
theorem ZEH:((Rows.fnWireGrowsRow.loops == (Tryz.f4.params.toList++Rows.fnWireGrowsSpec.plain.varTypes Tryz.prog).any (Tryz.prog.loopsFrom ·)))=true:=by kernel_rfl
theorem ZEI:((Rows.fnWireGrowsRow.wideKeys == (Tryz.f4.params.toList++Rows.fnWireGrowsSpec.plain.varTypes Tryz.prog++Tryz.f4.resultTypes.toList).any (Tryz.prog.wideKeysFrom ·)))=true:=by kernel_rfl
theorem ZEJ:(Rows.fnWireGrowsSpec.vars.all (Tryz.prog.varReadable ·))=true:=by kernel_rfl
theorem ZEK:(Tryz.f4.resultTypes.all (fun t=>Tryz.prog.readableRec t&&decide (t<Tryz.prog.types.size)))=true:=by kernel_rfl
theorem ZEL:((Rows.fnWireGrowsRow.ifacesOut == Tryz.f4.resultTypes.toList.any (Tryz.prog.ifacesRec ·)))=true:=by kernel_rfl
theorem ZEM:((Rows.fnWireGrowsRow.loopsOut == Tryz.f4.resultTypes.toList.any (Tryz.prog.loopsFrom ·)))=true:=by kernel_rfl
theorem ZEN:((Rows.fnWireGrowsRow.plainKeys == Tryz.prog.plainKeys))=true:=by kernel_rfl
theorem ZEO:(Rows.fnWireGrowsRow.shortTexts.isNone)=true:=by kernel_rfl
theorem ZEP:(Tryz.prog.stopsHeard)=true:=by kernel_rfl
theorem ZEQ:(Tryz.prog.mayEnter)=true:=by kernel_rfl
theorem ZER:((Rows.fnWireGrowsRow.lifted == Tryz.prog.liftsFinal))=true:=by kernel_rfl
theorem ZES:((Tryz.prog.make == some Rows.fnWireGrowsRow.make))=true:=by kernel_rfl
theorem ZET:((Rows.fnWireGrowsRow.kinds == (if Rows.fnWireGrowsRow.domain.isEmpty then [] else Tryz.f4.params.toList.map fun t=>match Tryz.prog.underlying t with | some (.int k)=>some k | _=>none)))=true:=by kernel_rfl
theorem ZEU:((Rows.fnWireGrowsRow.pinned == Rows.fnWireGrowsRow.pinnedBy))=true:=by kernel_rfl
theorem ZEV:((Rows.fnWireGrowsRow.veiled == (Tryz.f4.params.toList++Rows.fnWireGrowsSpec.plain.varTypes Tryz.prog++Tryz.f4.resultTypes.toList).any (Tryz.prog.veiledRec ·)))=true:=by kernel_rfl
theorem ZEW:(Rows.fnWireGrowsRow.veiledFits Tryz.prog Tryz.f4.params.toList (Tryz.f4.params.toList++Rows.fnWireGrowsSpec.plain.varTypes Tryz.prog++Tryz.f4.resultTypes.toList))=true:=by kernel_rfl
theorem ZDX {a b:Bool} (h1:a=true) (h2:b=true):(a&&b)=true:=by rw [h1,h2];rfl
theorem ZEp:joinedFacts Tryz.prog 4 Tryz.f4 Rows.fnWireGrowsSpec Rows.fnWireGrowsRow=true:=by
 unfold joinedFacts
 exact ZDX (ZDX (ZDX (ZDX (ZDX (ZDX (ZDX (ZDX (ZDX (ZDX (ZDX (ZDX (ZDX (ZDX (ZDX (ZDX (ZDX (ZDX (ZDX (ZDX (ZDX (ZDX (ZDX (ZDX (ZDX (ZDX (ZDX (ZDX (ZDX (ZDX (ZDX (ZE1) ZE2) ZE3) ZE4) ZE5) ZE6) ZE7) ZE8) ZE9) ZFa) ZEB) ZEC) ZED) ZEE) ZEF) ZEG) ZEH) ZEI) ZEJ) ZEK) ZEL) ZEM) ZEN) ZEO) ZEP) ZEQ) ZER) ZES) ZET) ZEU) ZEV) ZEW
end Go.Proofs.YtnnbgbgapogckaaGreatDoor
