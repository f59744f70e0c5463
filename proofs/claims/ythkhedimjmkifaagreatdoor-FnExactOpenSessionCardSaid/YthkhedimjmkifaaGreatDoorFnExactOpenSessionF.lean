/-
  FnExactOpenSession: what the row says of the program, fact by fact.
-/
import Derived.Test.YthkhedimjmkifaaGreatDoorRows
import Derived.Test.YthkhedimjmkifaaGreatDoorChecked
import Derived.KernelRfl
import Derived.JoinedOf
namespace Go.Proofs.YthkhedimjmkifaaGreatDoor
open Go
set_option maxRecDepth 100000
theorem ZNi:(Rows.fnExactOpenSessionRow.wf (OpenSpec.ofChange Rows.fnExactOpenSessionSpec))=true:=by kernel_rfl
theorem ZNj:(laidOutB Tryz.prog)=true:=by kernel_rfl
theorem ZNk:(mapsRowed Tryz.prog)=true:=by kernel_rfl
theorem ZNl:(Tryz.f4.params.all (Tryz.prog.readableRec ·))=true:=by kernel_rfl
theorem ZNm:(namedTie Tryz.prog Rows.fnExactOpenSessionRow.named Rows.fnExactOpenSessionSpec.vars)=true:=by kernel_rfl
theorem ZNn:((Rows.fnExactOpenSessionRow.stops == []))=true:=by kernel_rfl
theorem ZNo:((Tryz.prog.stops == []))=true:=by kernel_rfl
theorem ZNp:((Rows.fnExactOpenSessionRow.knobs == []))=true:=by kernel_rfl
theorem ZNq:((Tryz.prog.stopKnobs == []))=true:=by kernel_rfl
theorem ZNr:((Rows.fnExactOpenSessionRow.inPlace == Tryz.prog.inPlace 4))=true:=by kernel_rfl
theorem ZLW:((Rows.fnExactOpenSessionRow.unfollowed == Tryz.prog.unfollowed 4))=true:=by kernel_rfl
theorem ZLX:((Rows.fnExactOpenSessionRow.recurses == Tryz.prog.recurses 4))=true:=by kernel_rfl
theorem ZLY:((Rows.fnExactOpenSessionRow.named == Tryz.prog.varsNamed 4))=true:=by kernel_rfl
theorem ZLZ:((Rows.fnExactOpenSessionRow.maps == (Tryz.f4.params.toList++Rows.fnExactOpenSessionSpec.plain.varTypes Tryz.prog).any (Tryz.prog.mapsRec ·)))=true:=by kernel_rfl
theorem ZL0:((Rows.fnExactOpenSessionRow.ifaces == (Tryz.f4.params.toList++Rows.fnExactOpenSessionSpec.plain.varTypes Tryz.prog).any (Tryz.prog.ifacesRec ·)))=true:=by kernel_rfl
theorem ZL1:((Rows.fnExactOpenSessionRow.mapsOut == Tryz.prog.mapsAmong Tryz.f4.resultTypes.toList))=true:=by kernel_rfl
theorem ZL2:((Rows.fnExactOpenSessionRow.loops == (Tryz.f4.params.toList++Rows.fnExactOpenSessionSpec.plain.varTypes Tryz.prog).any (Tryz.prog.loopsFrom ·)))=true:=by kernel_rfl
theorem ZL3:((Rows.fnExactOpenSessionRow.wideKeys == (Tryz.f4.params.toList++Rows.fnExactOpenSessionSpec.plain.varTypes Tryz.prog++Tryz.f4.resultTypes.toList).any (Tryz.prog.wideKeysFrom ·)))=true:=by kernel_rfl
theorem ZL4:(Rows.fnExactOpenSessionSpec.vars.all (Tryz.prog.varReadable ·))=true:=by kernel_rfl
theorem ZL5:(Tryz.f4.resultTypes.all (fun t=>Tryz.prog.readableRec t&&decide (t<Tryz.prog.types.size)))=true:=by kernel_rfl
theorem ZL6:((Rows.fnExactOpenSessionRow.ifacesOut == Tryz.f4.resultTypes.toList.any (Tryz.prog.ifacesRec ·)))=true:=by kernel_rfl
theorem ZL7:((Rows.fnExactOpenSessionRow.loopsOut == Tryz.f4.resultTypes.toList.any (Tryz.prog.loopsFrom ·)))=true:=by kernel_rfl
theorem ZL8:((Rows.fnExactOpenSessionRow.plainKeys == Tryz.prog.plainKeys))=true:=by kernel_rfl
theorem ZL9:(Rows.fnExactOpenSessionRow.shortTexts.isNone)=true:=by kernel_rfl
theorem ZMa:(Tryz.prog.stopsHeard)=true:=by kernel_rfl
theorem ZMb:(Tryz.prog.mayEnter)=true:=by kernel_rfl
theorem ZMc:((Rows.fnExactOpenSessionRow.lifted == Tryz.prog.liftsFinal))=true:=by kernel_rfl
theorem ZMd:((Tryz.prog.make == some Rows.fnExactOpenSessionRow.make))=true:=by kernel_rfl
theorem ZMe:((Rows.fnExactOpenSessionRow.kinds == (if Rows.fnExactOpenSessionRow.domain.isEmpty then [] else Tryz.f4.params.toList.map fun t=>match Tryz.prog.underlying t with | some (.int k)=>some k | _=>none)))=true:=by kernel_rfl
theorem ZMf:((Rows.fnExactOpenSessionRow.pinned == Rows.fnExactOpenSessionRow.pinnedBy))=true:=by kernel_rfl
theorem ZMg:((Rows.fnExactOpenSessionRow.veiled == (Tryz.f4.params.toList++Rows.fnExactOpenSessionSpec.plain.varTypes Tryz.prog++Tryz.f4.resultTypes.toList).any (Tryz.prog.veiledRec ·)))=true:=by kernel_rfl
theorem ZMh:(Rows.fnExactOpenSessionRow.veiledFits Tryz.prog Tryz.f4.params.toList (Tryz.f4.params.toList++Rows.fnExactOpenSessionSpec.plain.varTypes Tryz.prog++Tryz.f4.resultTypes.toList))=true:=by kernel_rfl
theorem ZIy {a b:Bool} (h1:a=true) (h2:b=true):(a&&b)=true:=by rw [h1,h2];rfl
theorem ZKY:joinedFacts Tryz.prog 4 Tryz.f4 Rows.fnExactOpenSessionSpec Rows.fnExactOpenSessionRow=true:=by
 unfold joinedFacts
 exact ZIy (ZIy (ZIy (ZIy (ZIy (ZIy (ZIy (ZIy (ZIy (ZIy (ZIy (ZIy (ZIy (ZIy (ZIy (ZIy (ZIy (ZIy (ZIy (ZIy (ZIy (ZIy (ZIy (ZIy (ZIy (ZIy (ZIy (ZIy (ZIy (ZIy (ZIy (ZNi) ZNj) ZNk) ZNl) ZNm) ZNn) ZNo) ZNp) ZNq) ZNr) ZLW) ZLX) ZLY) ZLZ) ZL0) ZL1) ZL2) ZL3) ZL4) ZL5) ZL6) ZL7) ZL8) ZL9) ZMa) ZMb) ZMc) ZMd) ZMe) ZMf) ZMg) ZMh
end Go.Proofs.YthkhedimjmkifaaGreatDoor
