/-
  FnWrongNodes: what the row says of the program, fact by fact.
-/
import Derived.Test.YtgjjlgodlhhdoaaGreatDoorRows
import Derived.Test.YtgjjlgodlhhdoaaGreatDoorChecked
import Derived.KernelRfl
import Derived.JoinedOf
namespace Go.Proofs.YtgjjlgodlhhdoaaGreatDoor
open Go
set_option maxRecDepth 100000
theorem Zkc:(Rows.fnWrongNodesRow.wf (OpenSpec.ofChange Rows.fnWrongNodesSpec))=true:=by kernel_rfl
theorem Zkd:(laidOutB Tryz.prog)=true:=by kernel_rfl
theorem Zke:(mapsRowed Tryz.prog)=true:=by kernel_rfl
theorem Zkf:(Tryz.f4.params.all (Tryz.prog.readableRec ·))=true:=by kernel_rfl
theorem Zkg:(namedTie Tryz.prog Rows.fnWrongNodesRow.named Rows.fnWrongNodesSpec.vars)=true:=by kernel_rfl
theorem Zkh:((Rows.fnWrongNodesRow.stops == []))=true:=by kernel_rfl
theorem Zki:((Tryz.prog.stops == []))=true:=by kernel_rfl
theorem Zkj:((Rows.fnWrongNodesRow.knobs == []))=true:=by kernel_rfl
theorem Zkk:((Tryz.prog.stopKnobs == []))=true:=by kernel_rfl
theorem Zkl:((Rows.fnWrongNodesRow.inPlace == Tryz.prog.inPlace 4))=true:=by kernel_rfl
theorem Zjc:((Rows.fnWrongNodesRow.unfollowed == Tryz.prog.unfollowed 4))=true:=by kernel_rfl
theorem Zjd:((Rows.fnWrongNodesRow.recurses == Tryz.prog.recurses 4))=true:=by kernel_rfl
theorem Zje:((Rows.fnWrongNodesRow.named == Tryz.prog.varsNamed 4))=true:=by kernel_rfl
theorem Zjf:((Rows.fnWrongNodesRow.maps == (Tryz.f4.params.toList++Rows.fnWrongNodesSpec.plain.varTypes Tryz.prog).any (Tryz.prog.mapsRec ·)))=true:=by kernel_rfl
theorem Zjg:((Rows.fnWrongNodesRow.ifaces == (Tryz.f4.params.toList++Rows.fnWrongNodesSpec.plain.varTypes Tryz.prog).any (Tryz.prog.ifacesRec ·)))=true:=by kernel_rfl
theorem Zjh:((Rows.fnWrongNodesRow.mapsOut == Tryz.prog.mapsAmong Tryz.f4.resultTypes.toList))=true:=by kernel_rfl
theorem Zji:((Rows.fnWrongNodesRow.loops == (Tryz.f4.params.toList++Rows.fnWrongNodesSpec.plain.varTypes Tryz.prog).any (Tryz.prog.loopsFrom ·)))=true:=by kernel_rfl
theorem Zjj:((Rows.fnWrongNodesRow.wideKeys == (Tryz.f4.params.toList++Rows.fnWrongNodesSpec.plain.varTypes Tryz.prog++Tryz.f4.resultTypes.toList).any (Tryz.prog.wideKeysFrom ·)))=true:=by kernel_rfl
theorem Zjk:(Rows.fnWrongNodesSpec.vars.all (Tryz.prog.varReadable ·))=true:=by kernel_rfl
theorem Zjl:(Tryz.f4.resultTypes.all (λt=>Tryz.prog.readableRec t&&decide (t<Tryz.prog.types.size)))=true:=by kernel_rfl
theorem Zjm:((Rows.fnWrongNodesRow.ifacesOut == Tryz.f4.resultTypes.toList.any (Tryz.prog.ifacesRec ·)))=true:=by kernel_rfl
theorem Zjn:((Rows.fnWrongNodesRow.loopsOut == Tryz.f4.resultTypes.toList.any (Tryz.prog.loopsFrom ·)))=true:=by kernel_rfl
theorem Zjo:((Rows.fnWrongNodesRow.plainKeys == Tryz.prog.plainKeys))=true:=by kernel_rfl
theorem Zjp:(Rows.fnWrongNodesRow.shortTexts.isNone)=true:=by kernel_rfl
theorem Zjq:(Tryz.prog.stopsHeard)=true:=by kernel_rfl
theorem Zjr:(Tryz.prog.mayEnter)=true:=by kernel_rfl
theorem Zjs:((Rows.fnWrongNodesRow.lifted == Tryz.prog.liftsFinal))=true:=by kernel_rfl
theorem Zjt:((Tryz.prog.make == some Rows.fnWrongNodesRow.make))=true:=by kernel_rfl
theorem Zju:((Rows.fnWrongNodesRow.kinds == (if Rows.fnWrongNodesRow.domain.isEmpty then [] else Tryz.f4.params.toList.map λt=>match Tryz.prog.underlying t with | some (.int k)=>some k | _=>none)))=true:=by kernel_rfl
theorem Zjv:((Rows.fnWrongNodesRow.pinned == Rows.fnWrongNodesRow.pinnedBy))=true:=by kernel_rfl
theorem Zjw:((Rows.fnWrongNodesRow.veiled == (Tryz.f4.params.toList++Rows.fnWrongNodesSpec.plain.varTypes Tryz.prog++Tryz.f4.resultTypes.toList).any (Tryz.prog.veiledRec ·)))=true:=by kernel_rfl
theorem Zjx:(Rows.fnWrongNodesRow.veiledFits Tryz.prog Tryz.f4.params.toList (Tryz.f4.params.toList++Rows.fnWrongNodesSpec.plain.varTypes Tryz.prog++Tryz.f4.resultTypes.toList))=true:=by kernel_rfl
theorem ZC {a b:Bool} (h1:a=true) (h2:b=true):(a&&b)=true:=by rw[h1,h2];rfl
theorem Zhe:joinedFacts Tryz.prog 4 Tryz.f4 Rows.fnWrongNodesSpec Rows.fnWrongNodesRow=true:=by
 unfold joinedFacts;exact ZC (ZC (ZC (ZC (ZC (ZC (ZC (ZC (ZC (ZC (ZC (ZC (ZC (ZC (ZC (ZC (ZC (ZC (ZC (ZC (ZC (ZC (ZC (ZC (ZC (ZC (ZC (ZC (ZC (ZC (ZC (Zkc) Zkd) Zke) Zkf) Zkg) Zkh) Zki) Zkj) Zkk) Zkl) Zjc) Zjd) Zje) Zjf) Zjg) Zjh) Zji) Zjj) Zjk) Zjl) Zjm) Zjn) Zjo) Zjp) Zjq) Zjr) Zjs) Zjt) Zju) Zjv) Zjw) Zjx
end Go.Proofs.YtgjjlgodlhhdoaaGreatDoor
