/-
  FnExactWrongNodes: what the row says of the program, fact by fact.
-/
import Derived.Test.YtclfgjepbamnlaaGreatDoorRows
import Derived.Test.YtclfgjepbamnlaaGreatDoorChecked
import Derived.KernelRfl
import Derived.JoinedOf
namespace Go.Proofs.YtclfgjepbamnlaaGreatDoor
open Go
set_option maxRecDepth 100000
theorem Zh8:(Rows.fnExactWrongNodesRow.wf (OpenSpec.ofChange Rows.fnExactWrongNodesSpec))=true:=by kernel_rfl
theorem Zh9:(laidOutB Tryz.prog)=true:=by kernel_rfl
theorem Zia:(mapsRowed Tryz.prog)=true:=by kernel_rfl
theorem Zib:(Tryz.f3.params.all (Tryz.prog.readableRec ·))=true:=by kernel_rfl
theorem Zic:(namedTie Tryz.prog Rows.fnExactWrongNodesRow.named Rows.fnExactWrongNodesSpec.vars)=true:=by kernel_rfl
theorem Zid:((Rows.fnExactWrongNodesRow.stops == []))=true:=by kernel_rfl
theorem Zie:((Tryz.prog.stops == []))=true:=by kernel_rfl
theorem Zif:((Rows.fnExactWrongNodesRow.knobs == []))=true:=by kernel_rfl
theorem Zig:((Tryz.prog.stopKnobs == []))=true:=by kernel_rfl
theorem Zih:((Rows.fnExactWrongNodesRow.inPlace == Tryz.prog.inPlace 3))=true:=by kernel_rfl
theorem Zha:((Rows.fnExactWrongNodesRow.unfollowed == Tryz.prog.unfollowed 3))=true:=by kernel_rfl
theorem Zhb:((Rows.fnExactWrongNodesRow.recurses == Tryz.prog.recurses 3))=true:=by kernel_rfl
theorem Zhc:((Rows.fnExactWrongNodesRow.named == Tryz.prog.varsNamed 3))=true:=by kernel_rfl
theorem Zhd:((Rows.fnExactWrongNodesRow.maps == (Tryz.f3.params.toList++Rows.fnExactWrongNodesSpec.plain.varTypes Tryz.prog).any (Tryz.prog.mapsRec ·)))=true:=by kernel_rfl
theorem Zhe:((Rows.fnExactWrongNodesRow.ifaces == (Tryz.f3.params.toList++Rows.fnExactWrongNodesSpec.plain.varTypes Tryz.prog).any (Tryz.prog.ifacesRec ·)))=true:=by kernel_rfl
theorem Zhf:((Rows.fnExactWrongNodesRow.mapsOut == Tryz.prog.mapsAmong Tryz.f3.resultTypes.toList))=true:=by kernel_rfl
theorem Zhg:((Rows.fnExactWrongNodesRow.loops == (Tryz.f3.params.toList++Rows.fnExactWrongNodesSpec.plain.varTypes Tryz.prog).any (Tryz.prog.loopsFrom ·)))=true:=by kernel_rfl
theorem Zhh:((Rows.fnExactWrongNodesRow.wideKeys == (Tryz.f3.params.toList++Rows.fnExactWrongNodesSpec.plain.varTypes Tryz.prog++Tryz.f3.resultTypes.toList).any (Tryz.prog.wideKeysFrom ·)))=true:=by kernel_rfl
theorem Zhi:(Rows.fnExactWrongNodesSpec.vars.all (Tryz.prog.varReadable ·))=true:=by kernel_rfl
theorem Zhj:(Tryz.f3.resultTypes.all (fun t=>Tryz.prog.readableRec t&&decide (t<Tryz.prog.types.size)))=true:=by kernel_rfl
theorem Zhk:((Rows.fnExactWrongNodesRow.ifacesOut == Tryz.f3.resultTypes.toList.any (Tryz.prog.ifacesRec ·)))=true:=by kernel_rfl
theorem Zhl:((Rows.fnExactWrongNodesRow.loopsOut == Tryz.f3.resultTypes.toList.any (Tryz.prog.loopsFrom ·)))=true:=by kernel_rfl
theorem Zhm:((Rows.fnExactWrongNodesRow.plainKeys == Tryz.prog.plainKeys))=true:=by kernel_rfl
theorem Zhn:(Rows.fnExactWrongNodesRow.shortTexts.isNone)=true:=by kernel_rfl
theorem Zho:(Tryz.prog.stopsHeard)=true:=by kernel_rfl
theorem Zhp:(Tryz.prog.mayEnter)=true:=by kernel_rfl
theorem Zhq:((Rows.fnExactWrongNodesRow.lifted == Tryz.prog.liftsFinal))=true:=by kernel_rfl
theorem Zhr:((Tryz.prog.make == some Rows.fnExactWrongNodesRow.make))=true:=by kernel_rfl
theorem Zhs:((Rows.fnExactWrongNodesRow.kinds == (if Rows.fnExactWrongNodesRow.domain.isEmpty then [] else Tryz.f3.params.toList.map fun t=>match Tryz.prog.underlying t with | some (.int k)=>some k | _=>none)))=true:=by kernel_rfl
theorem Zht:((Rows.fnExactWrongNodesRow.pinned == Rows.fnExactWrongNodesRow.pinnedBy))=true:=by kernel_rfl
theorem Zhu:((Rows.fnExactWrongNodesRow.veiled == (Tryz.f3.params.toList++Rows.fnExactWrongNodesSpec.plain.varTypes Tryz.prog++Tryz.f3.resultTypes.toList).any (Tryz.prog.veiledRec ·)))=true:=by kernel_rfl
theorem Zhv:(Rows.fnExactWrongNodesRow.veiledFits Tryz.prog Tryz.f3.params.toList (Tryz.f3.params.toList++Rows.fnExactWrongNodesSpec.plain.varTypes Tryz.prog++Tryz.f3.resultTypes.toList))=true:=by kernel_rfl
theorem Zr {a b:Bool} (h1:a=true) (h2:b=true):(a&&b)=true:=by rw [h1,h2];rfl
theorem ZfE:joinedFacts Tryz.prog 3 Tryz.f3 Rows.fnExactWrongNodesSpec Rows.fnExactWrongNodesRow=true:=by
 unfold joinedFacts
 exact Zr (Zr (Zr (Zr (Zr (Zr (Zr (Zr (Zr (Zr (Zr (Zr (Zr (Zr (Zr (Zr (Zr (Zr (Zr (Zr (Zr (Zr (Zr (Zr (Zr (Zr (Zr (Zr (Zr (Zr (Zr (Zh8) Zh9) Zia) Zib) Zic) Zid) Zie) Zif) Zig) Zih) Zha) Zhb) Zhc) Zhd) Zhe) Zhf) Zhg) Zhh) Zhi) Zhj) Zhk) Zhl) Zhm) Zhn) Zho) Zhp) Zhq) Zhr) Zhs) Zht) Zhu) Zhv
end Go.Proofs.YtclfgjepbamnlaaGreatDoor
