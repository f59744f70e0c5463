/-
  FnExactSetupTiming: what the row says of the program, fact by fact.
-/
import Derived.Test.YtpkjbcbepmpddaaGreatDoorRows
import Derived.Test.YtpkjbcbepmpddaaGreatDoorChecked
import Derived.KernelRfl
import Derived.JoinedOf
namespace Go.Proofs.YtpkjbcbepmpddaaGreatDoor
open Go
set_option maxRecDepth 100000
theorem Zk5:(Rows.fnExactSetupTimingRow.wf (OpenSpec.ofChange Rows.fnExactSetupTimingSpec))=true:=by kernel_rfl
theorem Zk6:(laidOutB Tryz.prog)=true:=by kernel_rfl
theorem Zk7:(mapsRowed Tryz.prog)=true:=by kernel_rfl
theorem Zk8:(Tryz.f3.params.all (Tryz.prog.readableRec ·))=true:=by kernel_rfl
theorem Zk9:(namedTie Tryz.prog Rows.fnExactSetupTimingRow.named Rows.fnExactSetupTimingSpec.vars)=true:=by kernel_rfl
theorem Zla:((Rows.fnExactSetupTimingRow.stops == []))=true:=by kernel_rfl
theorem Zlb:((Tryz.prog.stops == []))=true:=by kernel_rfl
theorem Zlc:((Rows.fnExactSetupTimingRow.knobs == []))=true:=by kernel_rfl
theorem Zld:((Tryz.prog.stopKnobs == []))=true:=by kernel_rfl
theorem Zle:((Rows.fnExactSetupTimingRow.inPlace == Tryz.prog.inPlace 3))=true:=by kernel_rfl
theorem Zkq:((Rows.fnExactSetupTimingRow.unfollowed == Tryz.prog.unfollowed 3))=true:=by kernel_rfl
theorem Zkr:((Rows.fnExactSetupTimingRow.recurses == Tryz.prog.recurses 3))=true:=by kernel_rfl
theorem Zks:((Rows.fnExactSetupTimingRow.named == Tryz.prog.varsNamed 3))=true:=by kernel_rfl
theorem Zkt:((Rows.fnExactSetupTimingRow.maps == (Tryz.f3.params.toList++Rows.fnExactSetupTimingSpec.plain.varTypes Tryz.prog).any (Tryz.prog.mapsRec ·)))=true:=by kernel_rfl
theorem Zku:((Rows.fnExactSetupTimingRow.ifaces == (Tryz.f3.params.toList++Rows.fnExactSetupTimingSpec.plain.varTypes Tryz.prog).any (Tryz.prog.ifacesRec ·)))=true:=by kernel_rfl
theorem Zkv:((Rows.fnExactSetupTimingRow.mapsOut == Tryz.prog.mapsAmong Tryz.f3.resultTypes.toList))=true:=by kernel_rfl
theorem Zkw:((Rows.fnExactSetupTimingRow.loops == (Tryz.f3.params.toList++Rows.fnExactSetupTimingSpec.plain.varTypes Tryz.prog).any (Tryz.prog.loopsFrom ·)))=true:=by kernel_rfl
theorem Zkx:((Rows.fnExactSetupTimingRow.wideKeys == (Tryz.f3.params.toList++Rows.fnExactSetupTimingSpec.plain.varTypes Tryz.prog++Tryz.f3.resultTypes.toList).any (Tryz.prog.wideKeysFrom ·)))=true:=by kernel_rfl
theorem Zky:(Rows.fnExactSetupTimingSpec.vars.all (Tryz.prog.varReadable ·))=true:=by kernel_rfl
theorem Zkz:(Tryz.f3.resultTypes.all (λt=>Tryz.prog.readableRec t&&decide (t<Tryz.prog.types.size)))=true:=by kernel_rfl
theorem ZkA:((Rows.fnExactSetupTimingRow.ifacesOut == Tryz.f3.resultTypes.toList.any (Tryz.prog.ifacesRec ·)))=true:=by kernel_rfl
theorem ZkB:((Rows.fnExactSetupTimingRow.loopsOut == Tryz.f3.resultTypes.toList.any (Tryz.prog.loopsFrom ·)))=true:=by kernel_rfl
theorem ZkC:((Rows.fnExactSetupTimingRow.plainKeys == Tryz.prog.plainKeys))=true:=by kernel_rfl
theorem ZkD:(Rows.fnExactSetupTimingRow.shortTexts.isNone)=true:=by kernel_rfl
theorem ZkE:(Tryz.prog.stopsHeard)=true:=by kernel_rfl
theorem ZkF:(Tryz.prog.mayEnter)=true:=by kernel_rfl
theorem ZkG:((Rows.fnExactSetupTimingRow.lifted == Tryz.prog.liftsFinal))=true:=by kernel_rfl
theorem ZkH:((Tryz.prog.make == some Rows.fnExactSetupTimingRow.make))=true:=by kernel_rfl
theorem ZkI:((Rows.fnExactSetupTimingRow.kinds == (if Rows.fnExactSetupTimingRow.domain.isEmpty then [] else Tryz.f3.params.toList.map λt=>match Tryz.prog.underlying t with | some (.int k)=>some k | _=>none)))=true:=by kernel_rfl
theorem ZkJ:((Rows.fnExactSetupTimingRow.pinned == Rows.fnExactSetupTimingRow.pinnedBy))=true:=by kernel_rfl
theorem ZkK:((Rows.fnExactSetupTimingRow.veiled == (Tryz.f3.params.toList++Rows.fnExactSetupTimingSpec.plain.varTypes Tryz.prog++Tryz.f3.resultTypes.toList).any (Tryz.prog.veiledRec ·)))=true:=by kernel_rfl
theorem ZkL:(Rows.fnExactSetupTimingRow.veiledFits Tryz.prog Tryz.f3.params.toList (Tryz.f3.params.toList++Rows.fnExactSetupTimingSpec.plain.varTypes Tryz.prog++Tryz.f3.resultTypes.toList))=true:=by kernel_rfl
theorem ZA {a b:Bool} (h1:a=true) (h2:b=true):(a&&b)=true:=by rw[h1,h2];rfl
theorem ZiL:joinedFacts Tryz.prog 3 Tryz.f3 Rows.fnExactSetupTimingSpec Rows.fnExactSetupTimingRow=true:=by
 unfold joinedFacts;exact ZA (ZA (ZA (ZA (ZA (ZA (ZA (ZA (ZA (ZA (ZA (ZA (ZA (ZA (ZA (ZA (ZA (ZA (ZA (ZA (ZA (ZA (ZA (ZA (ZA (ZA (ZA (ZA (ZA (ZA (ZA (Zk5) Zk6) Zk7) Zk8) Zk9) Zla) Zlb) Zlc) Zld) Zle) Zkq) Zkr) Zks) Zkt) Zku) Zkv) Zkw) Zkx) Zky) Zkz) ZkA) ZkB) ZkC) ZkD) ZkE) ZkF) ZkG) ZkH) ZkI) ZkJ) ZkK) ZkL
end Go.Proofs.YtpkjbcbepmpddaaGreatDoor
