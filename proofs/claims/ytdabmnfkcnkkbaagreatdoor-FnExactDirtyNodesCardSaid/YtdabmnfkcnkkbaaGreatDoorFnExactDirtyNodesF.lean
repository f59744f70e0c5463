/-
  FnExactDirtyNodes: what the row says of the program, fact by fact.
-/
import Derived.Test.YtdabmnfkcnkkbaaGreatDoorRows
import Derived.Test.YtdabmnfkcnkkbaaGreatDoorChecked
import Derived.KernelRfl
import Derived.JoinedOf
namespace Go.Proofs.YtdabmnfkcnkkbaaGreatDoor
open Go
set_option maxRecDepth 100000
theorem ZI:(Rows.fnExactDirtyNodesRow.wf (OpenSpec.ofChange Rows.fnExactDirtyNodesSpec))=true:=by kernel_rfl
theorem ZJ:(laidOutB Tryz.prog)=true:=by kernel_rfl
theorem ZK:(mapsRowed Tryz.prog)=true:=by kernel_rfl
theorem ZL:(Tryz.f3.params.all (Tryz.prog.readableRec ·))=true:=by kernel_rfl
theorem ZM:(namedTie Tryz.prog Rows.fnExactDirtyNodesRow.named Rows.fnExactDirtyNodesSpec.vars)=true:=by kernel_rfl
theorem ZN:((Rows.fnExactDirtyNodesRow.stops == []))=true:=by kernel_rfl
theorem ZO:((Tryz.prog.stops == []))=true:=by kernel_rfl
theorem ZP:((Rows.fnExactDirtyNodesRow.knobs == []))=true:=by kernel_rfl
theorem ZQ:((Tryz.prog.stopKnobs == []))=true:=by kernel_rfl
theorem ZR:((Rows.fnExactDirtyNodesRow.inPlace == Tryz.prog.inPlace 3))=true:=by kernel_rfl
theorem Zi:((Rows.fnExactDirtyNodesRow.unfollowed == Tryz.prog.unfollowed 3))=true:=by kernel_rfl
theorem Zj:((Rows.fnExactDirtyNodesRow.recurses == Tryz.prog.recurses 3))=true:=by kernel_rfl
theorem Zk:((Rows.fnExactDirtyNodesRow.named == Tryz.prog.varsNamed 3))=true:=by kernel_rfl
theorem Zl:((Rows.fnExactDirtyNodesRow.maps == (Tryz.f3.params.toList++Rows.fnExactDirtyNodesSpec.plain.varTypes Tryz.prog).any (Tryz.prog.mapsRec ·)))=true:=by kernel_rfl
theorem Zm:((Rows.fnExactDirtyNodesRow.ifaces == (Tryz.f3.params.toList++Rows.fnExactDirtyNodesSpec.plain.varTypes Tryz.prog).any (Tryz.prog.ifacesRec ·)))=true:=by kernel_rfl
theorem Zn:((Rows.fnExactDirtyNodesRow.mapsOut == Tryz.prog.mapsAmong Tryz.f3.resultTypes.toList))=true:=by kernel_rfl
theorem Zo:((Rows.fnExactDirtyNodesRow.loops == (Tryz.f3.params.toList++Rows.fnExactDirtyNodesSpec.plain.varTypes Tryz.prog).any (Tryz.prog.loopsFrom ·)))=true:=by kernel_rfl
theorem Zp:((Rows.fnExactDirtyNodesRow.wideKeys == (Tryz.f3.params.toList++Rows.fnExactDirtyNodesSpec.plain.varTypes Tryz.prog++Tryz.f3.resultTypes.toList).any (Tryz.prog.wideKeysFrom ·)))=true:=by kernel_rfl
theorem Zq:(Rows.fnExactDirtyNodesSpec.vars.all (Tryz.prog.varReadable ·))=true:=by kernel_rfl
theorem Zr:(Tryz.f3.resultTypes.all (fun t=>Tryz.prog.readableRec t&&decide (t<Tryz.prog.types.size)))=true:=by kernel_rfl
theorem Zt:((Rows.fnExactDirtyNodesRow.ifacesOut == Tryz.f3.resultTypes.toList.any (Tryz.prog.ifacesRec ·)))=true:=by kernel_rfl
theorem Zu:((Rows.fnExactDirtyNodesRow.loopsOut == Tryz.f3.resultTypes.toList.any (Tryz.prog.loopsFrom ·)))=true:=by kernel_rfl
theorem Zv:((Rows.fnExactDirtyNodesRow.plainKeys == Tryz.prog.plainKeys))=true:=by kernel_rfl
theorem Zw:(Rows.fnExactDirtyNodesRow.shortTexts.isNone)=true:=by kernel_rfl
theorem Zx:(Tryz.prog.stopsHeard)=true:=by kernel_rfl
theorem Zy:(Tryz.prog.mayEnter)=true:=by kernel_rfl
theorem Zz:((Rows.fnExactDirtyNodesRow.lifted == Tryz.prog.liftsFinal))=true:=by kernel_rfl
theorem ZA:((Tryz.prog.make == some Rows.fnExactDirtyNodesRow.make))=true:=by kernel_rfl
theorem ZB:((Rows.fnExactDirtyNodesRow.kinds == (if Rows.fnExactDirtyNodesRow.domain.isEmpty then [] else Tryz.f3.params.toList.map fun t=>match Tryz.prog.underlying t with | some (.int k)=>some k | _=>none)))=true:=by kernel_rfl
theorem ZC:((Rows.fnExactDirtyNodesRow.pinned == Rows.fnExactDirtyNodesRow.pinnedBy))=true:=by kernel_rfl
theorem ZE:((Rows.fnExactDirtyNodesRow.veiled == (Tryz.f3.params.toList++Rows.fnExactDirtyNodesSpec.plain.varTypes Tryz.prog++Tryz.f3.resultTypes.toList).any (Tryz.prog.veiledRec ·)))=true:=by kernel_rfl
theorem ZF:(Rows.fnExactDirtyNodesRow.veiledFits Tryz.prog Tryz.f3.params.toList (Tryz.f3.params.toList++Rows.fnExactDirtyNodesSpec.plain.varTypes Tryz.prog++Tryz.f3.resultTypes.toList))=true:=by kernel_rfl
theorem Za {a b:Bool} (h1:a=true) (h2:b=true):(a&&b)=true:=by rw [h1,h2];rfl
theorem Zc:joinedFacts Tryz.prog 3 Tryz.f3 Rows.fnExactDirtyNodesSpec Rows.fnExactDirtyNodesRow=true:=by
 unfold joinedFacts
 exact Za (Za (Za (Za (Za (Za (Za (Za (Za (Za (Za (Za (Za (Za (Za (Za (Za (Za (Za (Za (Za (Za (Za (Za (Za (Za (Za (Za (Za (Za (Za (ZI) ZJ) ZK) ZL) ZM) ZN) ZO) ZP) ZQ) ZR) Zi) Zj) Zk) Zl) Zm) Zn) Zo) Zp) Zq) Zr) Zt) Zu) Zv) Zw) Zx) Zy) Zz) ZA) ZB) ZC) ZE) ZF
end Go.Proofs.YtdabmnfkcnkkbaaGreatDoor
