/-
  FnRelation: what the row says of the program, fact by fact.
-/
import Derived.Test.YtnnbgbgapogckaaGreatDoorRows
import Derived.Test.YtnnbgbgapogckaaGreatDoorChecked
import Derived.KernelRfl
import Derived.JoinedOf
namespace Go.Proofs.YtnnbgbgapogckaaGreatDoor
open Go
set_option maxRecDepth 100000
theorem Zfc:(Rows.fnRelationRow.wf (OpenSpec.ofChange Rows.fnRelationSpec))=true:=by kernel_rfl
theorem Zfd:(laidOutB Tryz.prog)=true:=by kernel_rfl
theorem Zfe:(mapsRowed Tryz.prog)=true:=by kernel_rfl
theorem Zff:(Tryz.f3.params.all (Tryz.prog.readableRec ·))=true:=by kernel_rfl
theorem Zfg:(namedTie Tryz.prog Rows.fnRelationRow.named Rows.fnRelationSpec.vars)=true:=by kernel_rfl
theorem Zfh:((Rows.fnRelationRow.stops == []))=true:=by kernel_rfl
theorem Zfi:((Tryz.prog.stops == []))=true:=by kernel_rfl
theorem Zfj:((Rows.fnRelationRow.knobs == []))=true:=by kernel_rfl
theorem Zfk:((Tryz.prog.stopKnobs == []))=true:=by kernel_rfl
theorem Zfl:((Rows.fnRelationRow.inPlace == Tryz.prog.inPlace 3))=true:=by kernel_rfl
theorem Zd0:((Rows.fnRelationRow.unfollowed == Tryz.prog.unfollowed 3))=true:=by kernel_rfl
theorem Zd1:((Rows.fnRelationRow.recurses == Tryz.prog.recurses 3))=true:=by kernel_rfl
theorem Zd2:((Rows.fnRelationRow.named == Tryz.prog.varsNamed 3))=true:=by kernel_rfl
theorem Zd3:((Rows.fnRelationRow.maps == (Tryz.f3.params.toList++Rows.fnRelationSpec.plain.varTypes Tryz.prog).any (Tryz.prog.mapsRec ·)))=true:=by kernel_rfl
theorem Zd4:((Rows.fnRelationRow.ifaces == (Tryz.f3.params.toList++Rows.fnRelationSpec.plain.varTypes Tryz.prog).any (Tryz.prog.ifacesRec ·)))=true:=by kernel_rfl
theorem Zd5:((Rows.fnRelationRow.mapsOut == Tryz.prog.mapsAmong Tryz.f3.resultTypes.toList))=true:=by kernel_rfl
theorem Zd6:((Rows.fnRelationRow.loops == (Tryz.f3.params.toList++Rows.fnRelationSpec.plain.varTypes Tryz.prog).any (Tryz.prog.loopsFrom ·)))=true:=by kernel_rfl
theorem Zd7:((Rows.fnRelationRow.wideKeys == (Tryz.f3.params.toList++Rows.fnRelationSpec.plain.varTypes Tryz.prog++Tryz.f3.resultTypes.toList).any (Tryz.prog.wideKeysFrom ·)))=true:=by kernel_rfl
theorem Zd8:(Rows.fnRelationSpec.vars.all (Tryz.prog.varReadable ·))=true:=by kernel_rfl
theorem Zd9:(Tryz.f3.resultTypes.all (fun t=>Tryz.prog.readableRec t&&decide (t<Tryz.prog.types.size)))=true:=by kernel_rfl
theorem Zea:((Rows.fnRelationRow.ifacesOut == Tryz.f3.resultTypes.toList.any (Tryz.prog.ifacesRec ·)))=true:=by kernel_rfl
theorem Zeb:((Rows.fnRelationRow.loopsOut == Tryz.f3.resultTypes.toList.any (Tryz.prog.loopsFrom ·)))=true:=by kernel_rfl
theorem Zec:((Rows.fnRelationRow.plainKeys == Tryz.prog.plainKeys))=true:=by kernel_rfl
theorem Zed:(Rows.fnRelationRow.shortTexts.isNone)=true:=by kernel_rfl
theorem Zee:(Tryz.prog.stopsHeard)=true:=by kernel_rfl
theorem Zef:(Tryz.prog.mayEnter)=true:=by kernel_rfl
theorem Zeg:((Rows.fnRelationRow.lifted == Tryz.prog.liftsFinal))=true:=by kernel_rfl
theorem Zeh:((Tryz.prog.make == some Rows.fnRelationRow.make))=true:=by kernel_rfl
theorem Zei:((Rows.fnRelationRow.kinds == (if Rows.fnRelationRow.domain.isEmpty then [] else Tryz.f3.params.toList.map fun t=>match Tryz.prog.underlying t with | some (.int k)=>some k | _=>none)))=true:=by kernel_rfl
theorem Zej:((Rows.fnRelationRow.pinned == Rows.fnRelationRow.pinnedBy))=true:=by kernel_rfl
theorem Zek:((Rows.fnRelationRow.veiled == (Tryz.f3.params.toList++Rows.fnRelationSpec.plain.varTypes Tryz.prog++Tryz.f3.resultTypes.toList).any (Tryz.prog.veiledRec ·)))=true:=by kernel_rfl
theorem Zel:(Rows.fnRelationRow.veiledFits Tryz.prog Tryz.f3.params.toList (Tryz.f3.params.toList++Rows.fnRelationSpec.plain.varTypes Tryz.prog++Tryz.f3.resultTypes.toList))=true:=by kernel_rfl
theorem Zn {a b:Bool} (h1:a=true) (h2:b=true):(a&&b)=true:=by rw [h1,h2];rfl
theorem Zb7:joinedFacts Tryz.prog 3 Tryz.f3 Rows.fnRelationSpec Rows.fnRelationRow=true:=by
 unfold joinedFacts
 exact Zn (Zn (Zn (Zn (Zn (Zn (Zn (Zn (Zn (Zn (Zn (Zn (Zn (Zn (Zn (Zn (Zn (Zn (Zn (Zn (Zn (Zn (Zn (Zn (Zn (Zn (Zn (Zn (Zn (Zn (Zn (Zfc) Zfd) Zfe) Zff) Zfg) Zfh) Zfi) Zfj) Zfk) Zfl) Zd0) Zd1) Zd2) Zd3) Zd4) Zd5) Zd6) Zd7) Zd8) Zd9) Zea) Zeb) Zec) Zed) Zee) Zef) Zeg) Zeh) Zei) Zej) Zek) Zel
end Go.Proofs.YtnnbgbgapogckaaGreatDoor
