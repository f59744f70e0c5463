/-
  FnExactInstancePower: what the row says of the program, fact by fact.
-/
import Derived.Test.YtjfbeebdhmebpaaGreatDoorRows
import Derived.Test.YtjfbeebdhmebpaaGreatDoorChecked
import Derived.KernelRfl
import Derived.JoinedOf
namespace Go.Proofs.YtjfbeebdhmebpaaGreatDoor
open Go
set_option maxRecDepth 100000
theorem ZxJ:(Rows.fnExactInstancePowerRow.wf (OpenSpec.ofChange Rows.fnExactInstancePowerSpec))=true:=by kernel_rfl
theorem ZxK:(laidOutB Tryz.prog)=true:=by kernel_rfl
theorem ZxL:(mapsRowed Tryz.prog)=true:=by kernel_rfl
theorem ZxM:(Tryz.f5.params.all (Tryz.prog.readableRec ·))=true:=by kernel_rfl
theorem ZxN:(namedTie Tryz.prog Rows.fnExactInstancePowerRow.named Rows.fnExactInstancePowerSpec.vars)=true:=by kernel_rfl
theorem ZxO:((Rows.fnExactInstancePowerRow.stops == []))=true:=by kernel_rfl
theorem ZxP:((Tryz.prog.stops == []))=true:=by kernel_rfl
theorem ZxQ:((Rows.fnExactInstancePowerRow.knobs == []))=true:=by kernel_rfl
theorem ZxR:((Tryz.prog.stopKnobs == []))=true:=by kernel_rfl
theorem ZxS:((Rows.fnExactInstancePowerRow.inPlace == Tryz.prog.inPlace 5))=true:=by kernel_rfl
theorem Zxf:((Rows.fnExactInstancePowerRow.unfollowed == Tryz.prog.unfollowed 5))=true:=by kernel_rfl
theorem Zxg:((Rows.fnExactInstancePowerRow.recurses == Tryz.prog.recurses 5))=true:=by kernel_rfl
theorem Zxh:((Rows.fnExactInstancePowerRow.named == Tryz.prog.varsNamed 5))=true:=by kernel_rfl
theorem Zxi:((Rows.fnExactInstancePowerRow.maps == (Tryz.f5.params.toList++Rows.fnExactInstancePowerSpec.plain.varTypes Tryz.prog).any (Tryz.prog.mapsRec ·)))=true:=by kernel_rfl
theorem Zxj:((Rows.fnExactInstancePowerRow.ifaces == (Tryz.f5.params.toList++Rows.fnExactInstancePowerSpec.plain.varTypes Tryz.prog).any (Tryz.prog.ifacesRec ·)))=true:=by kernel_rfl
theorem Zxk:((Rows.fnExactInstancePowerRow.mapsOut == Tryz.prog.mapsAmong Tryz.f5.resultTypes.toList))=true:=by kernel_rfl
theorem Zxl:((Rows.fnExactInstancePowerRow.loops == (Tryz.f5.params.toList++Rows.fnExactInstancePowerSpec.plain.varTypes Tryz.prog).any (Tryz.prog.loopsFrom ·)))=true:=by kernel_rfl
theorem Zxm:((Rows.fnExactInstancePowerRow.wideKeys == (Tryz.f5.params.toList++Rows.fnExactInstancePowerSpec.plain.varTypes Tryz.prog++Tryz.f5.resultTypes.toList).any (Tryz.prog.wideKeysFrom ·)))=true:=by kernel_rfl
theorem Zxn:(Rows.fnExactInstancePowerSpec.vars.all (Tryz.prog.varReadable ·))=true:=by kernel_rfl
theorem Zxo:(Tryz.f5.resultTypes.all (fun t=>Tryz.prog.readableRec t&&decide (t<Tryz.prog.types.size)))=true:=by kernel_rfl
theorem Zxp:((Rows.fnExactInstancePowerRow.ifacesOut == Tryz.f5.resultTypes.toList.any (Tryz.prog.ifacesRec ·)))=true:=by kernel_rfl
theorem Zxq:((Rows.fnExactInstancePowerRow.loopsOut == Tryz.f5.resultTypes.toList.any (Tryz.prog.loopsFrom ·)))=true:=by kernel_rfl
theorem Zxr:((Rows.fnExactInstancePowerRow.plainKeys == Tryz.prog.plainKeys))=true:=by kernel_rfl
theorem Zxs:(Rows.fnExactInstancePowerRow.shortTexts.isNone)=true:=by kernel_rfl
theorem Zxt:(Tryz.prog.stopsHeard)=true:=by kernel_rfl
theorem Zxu:(Tryz.prog.mayEnter)=true:=by kernel_rfl
theorem Zxv:((Rows.fnExactInstancePowerRow.lifted == Tryz.prog.liftsFinal))=true:=by kernel_rfl
theorem Zxw:((Tryz.prog.make == some Rows.fnExactInstancePowerRow.make))=true:=by kernel_rfl
theorem Zxx:((Rows.fnExactInstancePowerRow.kinds == (if Rows.fnExactInstancePowerRow.domain.isEmpty then [] else Tryz.f5.params.toList.map fun t=>match Tryz.prog.underlying t with | some (.int k)=>some k | _=>none)))=true:=by kernel_rfl
theorem Zxy:((Rows.fnExactInstancePowerRow.pinned == Rows.fnExactInstancePowerRow.pinnedBy))=true:=by kernel_rfl
theorem Zxz:((Rows.fnExactInstancePowerRow.veiled == (Tryz.f5.params.toList++Rows.fnExactInstancePowerSpec.plain.varTypes Tryz.prog++Tryz.f5.resultTypes.toList).any (Tryz.prog.veiledRec ·)))=true:=by kernel_rfl
theorem ZxA:(Rows.fnExactInstancePowerRow.veiledFits Tryz.prog Tryz.f5.params.toList (Tryz.f5.params.toList++Rows.fnExactInstancePowerSpec.plain.varTypes Tryz.prog++Tryz.f5.resultTypes.toList))=true:=by kernel_rfl
theorem ZvH {a b:Bool} (h1:a=true) (h2:b=true):(a&&b)=true:=by rw [h1,h2];rfl
theorem Zw1:joinedFacts Tryz.prog 5 Tryz.f5 Rows.fnExactInstancePowerSpec Rows.fnExactInstancePowerRow=true:=by
 unfold joinedFacts
 exact ZvH (ZvH (ZvH (ZvH (ZvH (ZvH (ZvH (ZvH (ZvH (ZvH (ZvH (ZvH (ZvH (ZvH (ZvH (ZvH (ZvH (ZvH (ZvH (ZvH (ZvH (ZvH (ZvH (ZvH (ZvH (ZvH (ZvH (ZvH (ZvH (ZvH (ZvH (ZxJ) ZxK) ZxL) ZxM) ZxN) ZxO) ZxP) ZxQ) ZxR) ZxS) Zxf) Zxg) Zxh) Zxi) Zxj) Zxk) Zxl) Zxm) Zxn) Zxo) Zxp) Zxq) Zxr) Zxs) Zxt) Zxu) Zxv) Zxw) Zxx) Zxy) Zxz) ZxA
end Go.Proofs.YtjfbeebdhmebpaaGreatDoor
