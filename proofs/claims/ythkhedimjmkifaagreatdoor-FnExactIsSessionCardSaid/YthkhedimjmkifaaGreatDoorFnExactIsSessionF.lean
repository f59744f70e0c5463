/-
  FnExactIsSession: what the row says of the program, fact by fact.
-/
import Derived.Test.YthkhedimjmkifaaGreatDoorRows
import Derived.Test.YthkhedimjmkifaaGreatDoorChecked
import Derived.KernelRfl
import Derived.JoinedOf
namespace Go.Proofs.YthkhedimjmkifaaGreatDoor
open Go
set_option maxRecDepth 100000
theorem ZkN:(Rows.fnExactIsSessionRow.wf (OpenSpec.ofChange Rows.fnExactIsSessionSpec))=true:=by kernel_rfl
theorem ZkI:(laidOutB Tryz.prog)=true:=by kernel_rfl
theorem Zlq:(mapsRowed Tryz.prog)=true:=by kernel_rfl
theorem Zlk:(Tryz.f3.params.all (Tryz.prog.readableRec ·))=true:=by kernel_rfl
theorem ZkD:(namedTie Tryz.prog Rows.fnExactIsSessionRow.named Rows.fnExactIsSessionSpec.vars)=true:=by kernel_rfl
theorem Zk6:((Rows.fnExactIsSessionRow.stops == []))=true:=by kernel_rfl
theorem Zla:((Tryz.prog.stops == []))=true:=by kernel_rfl
theorem Zlg:((Rows.fnExactIsSessionRow.knobs == []))=true:=by kernel_rfl
theorem ZkK:((Tryz.prog.stopKnobs == []))=true:=by kernel_rfl
theorem Zk8:((Rows.fnExactIsSessionRow.inPlace == Tryz.prog.inPlace 3))=true:=by kernel_rfl
theorem ZjQ:((Rows.fnExactIsSessionRow.unfollowed == Tryz.prog.unfollowed 3))=true:=by kernel_rfl
theorem Zjz:((Rows.fnExactIsSessionRow.recurses == Tryz.prog.recurses 3))=true:=by kernel_rfl
theorem Zj8:((Rows.fnExactIsSessionRow.named == Tryz.prog.varsNamed 3))=true:=by kernel_rfl
theorem ZjX:((Rows.fnExactIsSessionRow.maps == (Tryz.f3.params.toList++Rows.fnExactIsSessionSpec.plain.varTypes Tryz.prog).any (Tryz.prog.mapsRec ·)))=true:=by kernel_rfl
theorem ZjY:((Rows.fnExactIsSessionRow.ifaces == (Tryz.f3.params.toList++Rows.fnExactIsSessionSpec.plain.varTypes Tryz.prog).any (Tryz.prog.ifacesRec ·)))=true:=by kernel_rfl
theorem Zj9:((Rows.fnExactIsSessionRow.mapsOut == Tryz.prog.mapsAmong Tryz.f3.resultTypes.toList))=true:=by kernel_rfl
theorem ZjW:((Rows.fnExactIsSessionRow.loops == (Tryz.f3.params.toList++Rows.fnExactIsSessionSpec.plain.varTypes Tryz.prog).any (Tryz.prog.loopsFrom ·)))=true:=by kernel_rfl
theorem Zj6:((Rows.fnExactIsSessionRow.wideKeys == (Tryz.f3.params.toList++Rows.fnExactIsSessionSpec.plain.varTypes Tryz.prog++Tryz.f3.resultTypes.toList).any (Tryz.prog.wideKeysFrom ·)))=true:=by kernel_rfl
theorem ZjF:(Rows.fnExactIsSessionSpec.vars.all (Tryz.prog.varReadable ·))=true:=by kernel_rfl
theorem Zj7:(Tryz.f3.resultTypes.all (fun t=>Tryz.prog.readableRec t&&decide (t<Tryz.prog.types.size)))=true:=by kernel_rfl
theorem ZjH:((Rows.fnExactIsSessionRow.ifacesOut == Tryz.f3.resultTypes.toList.any (Tryz.prog.ifacesRec ·)))=true:=by kernel_rfl
theorem ZjV:((Rows.fnExactIsSessionRow.loopsOut == Tryz.f3.resultTypes.toList.any (Tryz.prog.loopsFrom ·)))=true:=by kernel_rfl
theorem ZjG:((Rows.fnExactIsSessionRow.plainKeys == Tryz.prog.plainKeys))=true:=by kernel_rfl
theorem ZjI:(Rows.fnExactIsSessionRow.shortTexts.isNone)=true:=by kernel_rfl
theorem ZjS:(Tryz.prog.stopsHeard)=true:=by kernel_rfl
theorem Zj1:(Tryz.prog.mayEnter)=true:=by kernel_rfl
theorem ZjM:((Rows.fnExactIsSessionRow.lifted == Tryz.prog.liftsFinal))=true:=by kernel_rfl
theorem ZjK:((Tryz.prog.make == some Rows.fnExactIsSessionRow.make))=true:=by kernel_rfl
theorem Zj2:((Rows.fnExactIsSessionRow.kinds == (if Rows.fnExactIsSessionRow.domain.isEmpty then [] else Tryz.f3.params.toList.map fun t=>match Tryz.prog.underlying t with | some (.int k)=>some k | _=>none)))=true:=by kernel_rfl
theorem ZjA:((Rows.fnExactIsSessionRow.pinned == Rows.fnExactIsSessionRow.pinnedBy))=true:=by kernel_rfl
theorem Zj3:((Rows.fnExactIsSessionRow.veiled == (Tryz.f3.params.toList++Rows.fnExactIsSessionSpec.plain.varTypes Tryz.prog++Tryz.f3.resultTypes.toList).any (Tryz.prog.veiledRec ·)))=true:=by kernel_rfl
theorem ZjL:(Rows.fnExactIsSessionRow.veiledFits Tryz.prog Tryz.f3.params.toList (Tryz.f3.params.toList++Rows.fnExactIsSessionSpec.plain.varTypes Tryz.prog++Tryz.f3.resultTypes.toList))=true:=by kernel_rfl
theorem Zx {a b:Bool} (h1:a=true) (h2:b=true):(a&&b)=true:=by rw [h1,h2];rfl
theorem Zh0:joinedFacts Tryz.prog 3 Tryz.f3 Rows.fnExactIsSessionSpec Rows.fnExactIsSessionRow=true:=by
 unfold joinedFacts
 exact Zx (Zx (Zx (Zx (Zx (Zx (Zx (Zx (Zx (Zx (Zx (Zx (Zx (Zx (Zx (Zx (Zx (Zx (Zx (Zx (Zx (Zx (Zx (Zx (Zx (Zx (Zx (Zx (Zx (Zx (Zx (ZkN) ZkI) Zlq) Zlk) ZkD) Zk6) Zla) Zlg) ZkK) Zk8) ZjQ) Zjz) Zj8) ZjX) ZjY) Zj9) ZjW) Zj6) ZjF) Zj7) ZjH) ZjV) ZjG) ZjI) ZjS) Zj1) ZjM) ZjK) Zj2) ZjA) Zj3) ZjL
end Go.Proofs.YthkhedimjmkifaaGreatDoor
