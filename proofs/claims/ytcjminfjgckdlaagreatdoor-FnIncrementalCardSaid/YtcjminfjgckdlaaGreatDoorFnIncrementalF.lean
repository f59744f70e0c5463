/-
  FnIncremental: what the row says of the program, fact by fact.
-/
import Derived.Test.YtcjminfjgckdlaaGreatDoorRows
import Derived.Test.YtcjminfjgckdlaaGreatDoorChecked
import Derived.KernelRfl
import Derived.JoinedOf
namespace Go.Proofs.YtcjminfjgckdlaaGreatDoor
open Go
set_option maxRecDepth 100000
theorem ZoF:(Rows.fnIncrementalRow.wf (OpenSpec.ofChange Rows.fnIncrementalSpec))=true:=by kernel_rfl
theorem ZoG:(laidOutB Tryz.prog)=true:=by kernel_rfl
theorem ZoH:(mapsRowed Tryz.prog)=true:=by kernel_rfl
theorem ZoI:(Tryz.f4.params.all (Tryz.prog.readableRec ·))=true:=by kernel_rfl
theorem ZoJ:(namedTie Tryz.prog Rows.fnIncrementalRow.named Rows.fnIncrementalSpec.vars)=true:=by kernel_rfl
theorem ZoK:((Rows.fnIncrementalRow.stops == []))=true:=by kernel_rfl
theorem ZoL:((Tryz.prog.stops == []))=true:=by kernel_rfl
theorem ZoM:((Rows.fnIncrementalRow.knobs == []))=true:=by kernel_rfl
theorem ZoN:((Tryz.prog.stopKnobs == []))=true:=by kernel_rfl
theorem ZoO:((Rows.fnIncrementalRow.inPlace == Tryz.prog.inPlace 4))=true:=by kernel_rfl
theorem Znb:((Rows.fnIncrementalRow.unfollowed == Tryz.prog.unfollowed 4))=true:=by kernel_rfl
theorem Znc:((Rows.fnIncrementalRow.recurses == Tryz.prog.recurses 4))=true:=by kernel_rfl
theorem Znd:((Rows.fnIncrementalRow.named == Tryz.prog.varsNamed 4))=true:=by kernel_rfl
theorem Zne:((Rows.fnIncrementalRow.maps == (Tryz.f4.params.toList++Rows.fnIncrementalSpec.plain.varTypes Tryz.prog).any (Tryz.prog.mapsRec ·)))=true:=by kernel_rfl
theorem Znf:((Rows.fnIncrementalRow.ifaces == (Tryz.f4.params.toList++Rows.fnIncrementalSpec.plain.varTypes Tryz.prog).any (Tryz.prog.ifacesRec ·)))=true:=by kernel_rfl
theorem Zng:((Rows.fnIncrementalRow.mapsOut == Tryz.prog.mapsAmong Tryz.f4.resultTypes.toList))=true:=by kernel_rfl
theorem Znh:((Rows.fnIncrementalRow.loops == (Tryz.f4.params.toList++Rows.fnIncrementalSpec.plain.varTypes Tryz.prog).any (Tryz.prog.loopsFrom ·)))=true:=by kernel_rfl
theorem Zni:((Rows.fnIncrementalRow.wideKeys == (Tryz.f4.params.toList++Rows.fnIncrementalSpec.plain.varTypes Tryz.prog++Tryz.f4.resultTypes.toList).any (Tryz.prog.wideKeysFrom ·)))=true:=by kernel_rfl
theorem Znj:(Rows.fnIncrementalSpec.vars.all (Tryz.prog.varReadable ·))=true:=by kernel_rfl
theorem Znk:(Tryz.f4.resultTypes.all (λt=>Tryz.prog.readableRec t&&decide (t<Tryz.prog.types.size)))=true:=by kernel_rfl
theorem Znl:((Rows.fnIncrementalRow.ifacesOut == Tryz.f4.resultTypes.toList.any (Tryz.prog.ifacesRec ·)))=true:=by kernel_rfl
theorem Znm:((Rows.fnIncrementalRow.loopsOut == Tryz.f4.resultTypes.toList.any (Tryz.prog.loopsFrom ·)))=true:=by kernel_rfl
theorem Znn:((Rows.fnIncrementalRow.plainKeys == Tryz.prog.plainKeys))=true:=by kernel_rfl
theorem Zno:(Rows.fnIncrementalRow.shortTexts.isNone)=true:=by kernel_rfl
theorem Znp:(Tryz.prog.stopsHeard)=true:=by kernel_rfl
theorem Znq:(Tryz.prog.mayEnter)=true:=by kernel_rfl
theorem Znr:((Rows.fnIncrementalRow.lifted == Tryz.prog.liftsFinal))=true:=by kernel_rfl
theorem Zns:((Tryz.prog.make == some Rows.fnIncrementalRow.make))=true:=by kernel_rfl
theorem Znt:((Rows.fnIncrementalRow.kinds == (if Rows.fnIncrementalRow.domain.isEmpty then [] else Tryz.f4.params.toList.map λt=>match Tryz.prog.underlying t with | some (.int k)=>some k | _=>none)))=true:=by kernel_rfl
theorem Znu:((Rows.fnIncrementalRow.pinned == Rows.fnIncrementalRow.pinnedBy))=true:=by kernel_rfl
theorem Znv:((Rows.fnIncrementalRow.veiled == (Tryz.f4.params.toList++Rows.fnIncrementalSpec.plain.varTypes Tryz.prog++Tryz.f4.resultTypes.toList).any (Tryz.prog.veiledRec ·)))=true:=by kernel_rfl
theorem Znw:(Rows.fnIncrementalRow.veiledFits Tryz.prog Tryz.f4.params.toList (Tryz.f4.params.toList++Rows.fnIncrementalSpec.plain.varTypes Tryz.prog++Tryz.f4.resultTypes.toList))=true:=by kernel_rfl
theorem ZJ {a b:Bool} (h1:a=true) (h2:b=true):(a&&b)=true:=by rw[h1,h2];rfl
theorem ZkW:joinedFacts Tryz.prog 4 Tryz.f4 Rows.fnIncrementalSpec Rows.fnIncrementalRow=true:=by
 unfold joinedFacts;exact ZJ (ZJ (ZJ (ZJ (ZJ (ZJ (ZJ (ZJ (ZJ (ZJ (ZJ (ZJ (ZJ (ZJ (ZJ (ZJ (ZJ (ZJ (ZJ (ZJ (ZJ (ZJ (ZJ (ZJ (ZJ (ZJ (ZJ (ZJ (ZJ (ZJ (ZJ (ZoF) ZoG) ZoH) ZoI) ZoJ) ZoK) ZoL) ZoM) ZoN) ZoO) Znb) Znc) Znd) Zne) Znf) Zng) Znh) Zni) Znj) Znk) Znl) Znm) Znn) Zno) Znp) Znq) Znr) Zns) Znt) Znu) Znv) Znw
end Go.Proofs.YtcjminfjgckdlaaGreatDoor
