/-
  FnExactInverseEdits: what the row says of the program, fact by fact.
-/
import Derived.Test.YtehkanadahncgaaGreatDoorRows
import Derived.Test.YtehkanadahncgaaGreatDoorChecked
import Derived.KernelRfl
import Derived.JoinedOf
namespace Go.Proofs.YtehkanadahncgaaGreatDoor
open Go
set_option maxRecDepth 100000
theorem Zhh:(Rows.fnExactInverseEditsRow.wf (OpenSpec.ofChange Rows.fnExactInverseEditsSpec))=true:=by kernel_rfl
theorem Zhb:(laidOutB Tryz.prog)=true:=by kernel_rfl
theorem Zhi:(mapsRowed Tryz.prog)=true:=by kernel_rfl
theorem Zg5:(Tryz.f3.params.all (Tryz.prog.readableRec ·))=true:=by kernel_rfl
theorem Zhc:(namedTie Tryz.prog Rows.fnExactInverseEditsRow.named Rows.fnExactInverseEditsSpec.vars)=true:=by kernel_rfl
theorem Zg7:((Rows.fnExactInverseEditsRow.stops == []))=true:=by kernel_rfl
theorem Zg8:((Tryz.prog.stops == []))=true:=by kernel_rfl
theorem Zhe:((Rows.fnExactInverseEditsRow.knobs == []))=true:=by kernel_rfl
theorem Zg9:((Tryz.prog.stopKnobs == []))=true:=by kernel_rfl
theorem Zhg:((Rows.fnExactInverseEditsRow.inPlace == Tryz.prog.inPlace 3))=true:=by kernel_rfl
theorem ZgA:((Rows.fnExactInverseEditsRow.unfollowed == Tryz.prog.unfollowed 3))=true:=by kernel_rfl
theorem ZgS:((Rows.fnExactInverseEditsRow.recurses == Tryz.prog.recurses 3))=true:=by kernel_rfl
theorem Zgf:((Rows.fnExactInverseEditsRow.named == Tryz.prog.varsNamed 3))=true:=by kernel_rfl
theorem Zgs:((Rows.fnExactInverseEditsRow.maps == (Tryz.f3.params.toList++Rows.fnExactInverseEditsSpec.plain.varTypes Tryz.prog).any (Tryz.prog.mapsRec ·)))=true:=by kernel_rfl
theorem ZgJ:((Rows.fnExactInverseEditsRow.ifaces == (Tryz.f3.params.toList++Rows.fnExactInverseEditsSpec.plain.varTypes Tryz.prog).any (Tryz.prog.ifacesRec ·)))=true:=by kernel_rfl
theorem Zgg:((Rows.fnExactInverseEditsRow.mapsOut == Tryz.prog.mapsAmong Tryz.f3.resultTypes.toList))=true:=by kernel_rfl
theorem Zgu:((Rows.fnExactInverseEditsRow.loops == (Tryz.f3.params.toList++Rows.fnExactInverseEditsSpec.plain.varTypes Tryz.prog).any (Tryz.prog.loopsFrom ·)))=true:=by kernel_rfl
theorem ZgF:((Rows.fnExactInverseEditsRow.wideKeys == (Tryz.f3.params.toList++Rows.fnExactInverseEditsSpec.plain.varTypes Tryz.prog++Tryz.f3.resultTypes.toList).any (Tryz.prog.wideKeysFrom ·)))=true:=by kernel_rfl
theorem Zgo:(Rows.fnExactInverseEditsSpec.vars.all (Tryz.prog.varReadable ·))=true:=by kernel_rfl
theorem Zgr:(Tryz.f3.resultTypes.all (fun t=>Tryz.prog.readableRec t&&decide (t<Tryz.prog.types.size)))=true:=by kernel_rfl
theorem ZgW:((Rows.fnExactInverseEditsRow.ifacesOut == Tryz.f3.resultTypes.toList.any (Tryz.prog.ifacesRec ·)))=true:=by kernel_rfl
theorem ZgL:((Rows.fnExactInverseEditsRow.loopsOut == Tryz.f3.resultTypes.toList.any (Tryz.prog.loopsFrom ·)))=true:=by kernel_rfl
theorem ZgV:((Rows.fnExactInverseEditsRow.plainKeys == Tryz.prog.plainKeys))=true:=by kernel_rfl
theorem Zgy:(Rows.fnExactInverseEditsRow.shortTexts.isNone)=true:=by kernel_rfl
theorem Zgm:(Tryz.prog.stopsHeard)=true:=by kernel_rfl
theorem ZgB:(Tryz.prog.mayEnter)=true:=by kernel_rfl
theorem ZgM:((Rows.fnExactInverseEditsRow.lifted == Tryz.prog.liftsFinal))=true:=by kernel_rfl
theorem Zgw:((Tryz.prog.make == some Rows.fnExactInverseEditsRow.make))=true:=by kernel_rfl
theorem ZgY:((Rows.fnExactInverseEditsRow.kinds == (if Rows.fnExactInverseEditsRow.domain.isEmpty then [] else Tryz.f3.params.toList.map fun t=>match Tryz.prog.underlying t with | some (.int k)=>some k | _=>none)))=true:=by kernel_rfl
theorem ZgQ:((Rows.fnExactInverseEditsRow.pinned == Rows.fnExactInverseEditsRow.pinnedBy))=true:=by kernel_rfl
theorem ZgT:((Rows.fnExactInverseEditsRow.veiled == (Tryz.f3.params.toList++Rows.fnExactInverseEditsSpec.plain.varTypes Tryz.prog++Tryz.f3.resultTypes.toList).any (Tryz.prog.veiledRec ·)))=true:=by kernel_rfl
theorem ZgR:(Rows.fnExactInverseEditsRow.veiledFits Tryz.prog Tryz.f3.params.toList (Tryz.f3.params.toList++Rows.fnExactInverseEditsSpec.plain.varTypes Tryz.prog++Tryz.f3.resultTypes.toList))=true:=by kernel_rfl
theorem Zo {a b:Bool} (h1:a=true) (h2:b=true):(a&&b)=true:=by rw [h1,h2];rfl
theorem Zfz:joinedFacts Tryz.prog 3 Tryz.f3 Rows.fnExactInverseEditsSpec Rows.fnExactInverseEditsRow=true:=by
 unfold joinedFacts
 exact Zo (Zo (Zo (Zo (Zo (Zo (Zo (Zo (Zo (Zo (Zo (Zo (Zo (Zo (Zo (Zo (Zo (Zo (Zo (Zo (Zo (Zo (Zo (Zo (Zo (Zo (Zo (Zo (Zo (Zo (Zo (Zhh) Zhb) Zhi) Zg5) Zhc) Zg7) Zg8) Zhe) Zg9) Zhg) ZgA) ZgS) Zgf) Zgs) ZgJ) Zgg) Zgu) ZgF) Zgo) Zgr) ZgW) ZgL) ZgV) Zgy) Zgm) ZgB) ZgM) Zgw) ZgY) ZgQ) ZgT) ZgR
end Go.Proofs.YtehkanadahncgaaGreatDoor
