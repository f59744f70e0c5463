/-
  FnExactHottestNets: what the row says of the program, fact by fact.
-/
import Derived.Test.YtioiomifapgimaaGreatDoorRows
import Derived.Test.YtioiomifapgimaaGreatDoorChecked
import Derived.KernelRfl
import Derived.JoinedOf
namespace Go.Proofs.YtioiomifapgimaaGreatDoor
open Go
set_option maxRecDepth 100000
theorem ZgW:(Rows.fnExactHottestNetsRow.wf (OpenSpec.ofChange Rows.fnExactHottestNetsSpec))=true:=by kernel_rfl
theorem ZgX:(laidOutB Tryz.prog)=true:=by kernel_rfl
theorem ZgY:(mapsRowed Tryz.prog)=true:=by kernel_rfl
theorem ZgZ:(Tryz.f4.params.all (Tryz.prog.readableRec ·))=true:=by kernel_rfl
theorem Zg0:(namedTie Tryz.prog Rows.fnExactHottestNetsRow.named Rows.fnExactHottestNetsSpec.vars)=true:=by kernel_rfl
theorem Zg1:((Rows.fnExactHottestNetsRow.stops == []))=true:=by kernel_rfl
theorem Zg2:((Tryz.prog.stops == []))=true:=by kernel_rfl
theorem Zg3:((Rows.fnExactHottestNetsRow.knobs == []))=true:=by kernel_rfl
theorem Zg4:((Tryz.prog.stopKnobs == []))=true:=by kernel_rfl
theorem Zg5:((Rows.fnExactHottestNetsRow.inPlace == Tryz.prog.inPlace 4))=true:=by kernel_rfl
theorem Zgg:((Rows.fnExactHottestNetsRow.unfollowed == Tryz.prog.unfollowed 4))=true:=by kernel_rfl
theorem Zgh:((Rows.fnExactHottestNetsRow.recurses == Tryz.prog.recurses 4))=true:=by kernel_rfl
theorem Zgi:((Rows.fnExactHottestNetsRow.named == Tryz.prog.varsNamed 4))=true:=by kernel_rfl
theorem Zgj:((Rows.fnExactHottestNetsRow.maps == (Tryz.f4.params.toList++Rows.fnExactHottestNetsSpec.plain.varTypes Tryz.prog).any (Tryz.prog.mapsRec ·)))=true:=by kernel_rfl
theorem Zgk:((Rows.fnExactHottestNetsRow.ifaces == (Tryz.f4.params.toList++Rows.fnExactHottestNetsSpec.plain.varTypes Tryz.prog).any (Tryz.prog.ifacesRec ·)))=true:=by kernel_rfl
theorem Zgl:((Rows.fnExactHottestNetsRow.mapsOut == Tryz.prog.mapsAmong Tryz.f4.resultTypes.toList))=true:=by kernel_rfl
theorem Zgm:((Rows.fnExactHottestNetsRow.loops == (Tryz.f4.params.toList++Rows.fnExactHottestNetsSpec.plain.varTypes Tryz.prog).any (Tryz.prog.loopsFrom ·)))=true:=by kernel_rfl
theorem Zgn:((Rows.fnExactHottestNetsRow.wideKeys == (Tryz.f4.params.toList++Rows.fnExactHottestNetsSpec.plain.varTypes Tryz.prog++Tryz.f4.resultTypes.toList).any (Tryz.prog.wideKeysFrom ·)))=true:=by kernel_rfl
theorem Zgo:(Rows.fnExactHottestNetsSpec.vars.all (Tryz.prog.varReadable ·))=true:=by kernel_rfl
theorem Zgp:(Tryz.f4.resultTypes.all (λt=>Tryz.prog.readableRec t&&decide (t<Tryz.prog.types.size)))=true:=by kernel_rfl
theorem Zgq:((Rows.fnExactHottestNetsRow.ifacesOut == Tryz.f4.resultTypes.toList.any (Tryz.prog.ifacesRec ·)))=true:=by kernel_rfl
theorem Zgr:((Rows.fnExactHottestNetsRow.loopsOut == Tryz.f4.resultTypes.toList.any (Tryz.prog.loopsFrom ·)))=true:=by kernel_rfl
theorem Zgs:((Rows.fnExactHottestNetsRow.plainKeys == Tryz.prog.plainKeys))=true:=by kernel_rfl
theorem Zgt:(Rows.fnExactHottestNetsRow.shortTexts.isNone)=true:=by kernel_rfl
theorem Zgu:(Tryz.prog.stopsHeard)=true:=by kernel_rfl
theorem Zgv:(Tryz.prog.mayEnter)=true:=by kernel_rfl
theorem Zgw:((Rows.fnExactHottestNetsRow.lifted == Tryz.prog.liftsFinal))=true:=by kernel_rfl
theorem Zgx:((Tryz.prog.make == some Rows.fnExactHottestNetsRow.make))=true:=by kernel_rfl
theorem Zgy:((Rows.fnExactHottestNetsRow.kinds == (if Rows.fnExactHottestNetsRow.domain.isEmpty then [] else Tryz.f4.params.toList.map λt=>match Tryz.prog.underlying t with | some (.int k)=>some k | _=>none)))=true:=by kernel_rfl
theorem Zgz:((Rows.fnExactHottestNetsRow.pinned == Rows.fnExactHottestNetsRow.pinnedBy))=true:=by kernel_rfl
theorem ZgA:((Rows.fnExactHottestNetsRow.veiled == (Tryz.f4.params.toList++Rows.fnExactHottestNetsSpec.plain.varTypes Tryz.prog++Tryz.f4.resultTypes.toList).any (Tryz.prog.veiledRec ·)))=true:=by kernel_rfl
theorem ZgB:(Rows.fnExactHottestNetsRow.veiledFits Tryz.prog Tryz.f4.params.toList (Tryz.f4.params.toList++Rows.fnExactHottestNetsSpec.plain.varTypes Tryz.prog++Tryz.f4.resultTypes.toList))=true:=by kernel_rfl
theorem Zq {a b:Bool} (h1:a=true) (h2:b=true):(a&&b)=true:=by rw[h1,h2];rfl
theorem ZeX:joinedFacts Tryz.prog 4 Tryz.f4 Rows.fnExactHottestNetsSpec Rows.fnExactHottestNetsRow=true:=by
 unfold joinedFacts;exact Zq (Zq (Zq (Zq (Zq (Zq (Zq (Zq (Zq (Zq (Zq (Zq (Zq (Zq (Zq (Zq (Zq (Zq (Zq (Zq (Zq (Zq (Zq (Zq (Zq (Zq (Zq (Zq (Zq (Zq (Zq (ZgW) ZgX) ZgY) ZgZ) Zg0) Zg1) Zg2) Zg3) Zg4) Zg5) Zgg) Zgh) Zgi) Zgj) Zgk) Zgl) Zgm) Zgn) Zgo) Zgp) Zgq) Zgr) Zgs) Zgt) Zgu) Zgv) Zgw) Zgx) Zgy) Zgz) ZgA) ZgB
end Go.Proofs.YtioiomifapgimaaGreatDoor
