/-
  FnExactDensityBound: what the row says of the program, fact by fact.
-/
import Derived.Test.YtjfbeebdhmebpaaGreatDoorRows
import Derived.Test.YtjfbeebdhmebpaaGreatDoorChecked
import Derived.KernelRfl
import Derived.JoinedOf
namespace Go.Proofs.YtjfbeebdhmebpaaGreatDoor
open Go
set_option maxRecDepth 100000
theorem Zd0:(Rows.fnExactDensityBoundRow.wf (OpenSpec.ofChange Rows.fnExactDensityBoundSpec))=true:=by kernel_rfl
theorem Zd1:(laidOutB Tryz.prog)=true:=by kernel_rfl
theorem Zd2:(mapsRowed Tryz.prog)=true:=by kernel_rfl
theorem Zd3:(Tryz.f3.params.all (Tryz.prog.readableRec ·))=true:=by kernel_rfl
theorem Zd4:(namedTie Tryz.prog Rows.fnExactDensityBoundRow.named Rows.fnExactDensityBoundSpec.vars)=true:=by kernel_rfl
theorem Zd5:((Rows.fnExactDensityBoundRow.stops == []))=true:=by kernel_rfl
theorem Zd6:((Tryz.prog.stops == []))=true:=by kernel_rfl
theorem Zd7:((Rows.fnExactDensityBoundRow.knobs == []))=true:=by kernel_rfl
theorem Zd8:((Tryz.prog.stopKnobs == []))=true:=by kernel_rfl
theorem Zd9:((Rows.fnExactDensityBoundRow.inPlace == Tryz.prog.inPlace 3))=true:=by kernel_rfl
theorem ZcX:((Rows.fnExactDensityBoundRow.unfollowed == Tryz.prog.unfollowed 3))=true:=by kernel_rfl
theorem ZcY:((Rows.fnExactDensityBoundRow.recurses == Tryz.prog.recurses 3))=true:=by kernel_rfl
theorem ZcZ:((Rows.fnExactDensityBoundRow.named == Tryz.prog.varsNamed 3))=true:=by kernel_rfl
theorem Zc0:((Rows.fnExactDensityBoundRow.maps == (Tryz.f3.params.toList++Rows.fnExactDensityBoundSpec.plain.varTypes Tryz.prog).any (Tryz.prog.mapsRec ·)))=true:=by kernel_rfl
theorem Zc1:((Rows.fnExactDensityBoundRow.ifaces == (Tryz.f3.params.toList++Rows.fnExactDensityBoundSpec.plain.varTypes Tryz.prog).any (Tryz.prog.ifacesRec ·)))=true:=by kernel_rfl
theorem Zc2:((Rows.fnExactDensityBoundRow.mapsOut == Tryz.prog.mapsAmong Tryz.f3.resultTypes.toList))=true:=by kernel_rfl
theorem Zc3:((Rows.fnExactDensityBoundRow.loops == (Tryz.f3.params.toList++Rows.fnExactDensityBoundSpec.plain.varTypes Tryz.prog).any (Tryz.prog.loopsFrom ·)))=true:=by kernel_rfl
theorem Zc4:((Rows.fnExactDensityBoundRow.wideKeys == (Tryz.f3.params.toList++Rows.fnExactDensityBoundSpec.plain.varTypes Tryz.prog++Tryz.f3.resultTypes.toList).any (Tryz.prog.wideKeysFrom ·)))=true:=by kernel_rfl
theorem Zc5:(Rows.fnExactDensityBoundSpec.vars.all (Tryz.prog.varReadable ·))=true:=by kernel_rfl
theorem Zc6:(Tryz.f3.resultTypes.all (fun t=>Tryz.prog.readableRec t&&decide (t<Tryz.prog.types.size)))=true:=by kernel_rfl
theorem Zc7:((Rows.fnExactDensityBoundRow.ifacesOut == Tryz.f3.resultTypes.toList.any (Tryz.prog.ifacesRec ·)))=true:=by kernel_rfl
theorem Zc8:((Rows.fnExactDensityBoundRow.loopsOut == Tryz.f3.resultTypes.toList.any (Tryz.prog.loopsFrom ·)))=true:=by kernel_rfl
theorem Zc9:((Rows.fnExactDensityBoundRow.plainKeys == Tryz.prog.plainKeys))=true:=by kernel_rfl
theorem Zda:(Rows.fnExactDensityBoundRow.shortTexts.isNone)=true:=by kernel_rfl
theorem Zdb:(Tryz.prog.stopsHeard)=true:=by kernel_rfl
theorem Zdc:(Tryz.prog.mayEnter)=true:=by kernel_rfl
theorem Zdd:((Rows.fnExactDensityBoundRow.lifted == Tryz.prog.liftsFinal))=true:=by kernel_rfl
theorem Zde:((Tryz.prog.make == some Rows.fnExactDensityBoundRow.make))=true:=by kernel_rfl
theorem Zdf:((Rows.fnExactDensityBoundRow.kinds == (if Rows.fnExactDensityBoundRow.domain.isEmpty then [] else Tryz.f3.params.toList.map fun t=>match Tryz.prog.underlying t with | some (.int k)=>some k | _=>none)))=true:=by kernel_rfl
theorem Zdg:((Rows.fnExactDensityBoundRow.pinned == Rows.fnExactDensityBoundRow.pinnedBy))=true:=by kernel_rfl
theorem Zdh:((Rows.fnExactDensityBoundRow.veiled == (Tryz.f3.params.toList++Rows.fnExactDensityBoundSpec.plain.varTypes Tryz.prog++Tryz.f3.resultTypes.toList).any (Tryz.prog.veiledRec ·)))=true:=by kernel_rfl
theorem Zdi:(Rows.fnExactDensityBoundRow.veiledFits Tryz.prog Tryz.f3.params.toList (Tryz.f3.params.toList++Rows.fnExactDensityBoundSpec.plain.varTypes Tryz.prog++Tryz.f3.resultTypes.toList))=true:=by kernel_rfl
theorem Zj {a b:Bool} (h1:a=true) (h2:b=true):(a&&b)=true:=by rw [h1,h2];rfl
theorem ZbW:joinedFacts Tryz.prog 3 Tryz.f3 Rows.fnExactDensityBoundSpec Rows.fnExactDensityBoundRow=true:=by
 unfold joinedFacts
 exact Zj (Zj (Zj (Zj (Zj (Zj (Zj (Zj (Zj (Zj (Zj (Zj (Zj (Zj (Zj (Zj (Zj (Zj (Zj (Zj (Zj (Zj (Zj (Zj (Zj (Zj (Zj (Zj (Zj (Zj (Zj (Zd0) Zd1) Zd2) Zd3) Zd4) Zd5) Zd6) Zd7) Zd8) Zd9) ZcX) ZcY) ZcZ) Zc0) Zc1) Zc2) Zc3) Zc4) Zc5) Zc6) Zc7) Zc8) Zc9) Zda) Zdb) Zdc) Zdd) Zde) Zdf) Zdg) Zdh) Zdi
end Go.Proofs.YtjfbeebdhmebpaaGreatDoor
