/-
  DERIVED: THE SHELF's CONTRACTS AT THIS DUMP, IN PLAIN WORDS (tools/lay-plain.mjs out of 'YtoijdogpgpbddaaGreatDoorShL.lean', which tools/lay-shelf.mjs wrote): THE SAME DECLARATIONS UNDER THE SAME NAMES: 'import', 'namespace', 'open', 'def', 'theorem' AND NOTHING ELSE: no command of the shelf's: FOR A HAND-IN. Each laying: the table of numbers ('.._ren') and one theorem, a field a fact of the dump's own or the kernel's comparison; each contract: ONE APPLICATION.
-/
import Derived.Test.YtoijdogpgpbddaaGreatDoorProg
import Derived.Ground.SlgmProg
import Derived.Ground.SlgnProg
import Derived.Shelf.SlGeneric
import Derived.Shelf.SortM.Plain
import Derived.Shelf.SlicesE.Compact
namespace Go.Proofs
open Go.Shelf
def Tryz.laysSort_ren:Go.Shelf.Ren:=⟨λ| 5=>195 | 8=>257 | 7=>256 | 19=>305 | 20=>306 | 10=>296 | 11=>297 | 12=>298 | 13=>299 | 14=>300 | 15=>301 | 16=>302 | 17=>303 | 18=>304 | 30=>327 | 31=>328 | 32=>329 | 33=>330 | 34=>331 | 35=>332 | 40=>347 | n=>n,λ| 23=>38 | 25=>2 | 3=>3 | 32=>154 | 22=>38 | 0=>0 | 44=>352 | 46=>153 | 4=>4 | 36=>346 | 35=>345 | 41=>283 | 5=>5 | 9=>9 | 53=>374 | 57=>378 | 63=>389 | 64=>390 | n=>n,λ| n=>n⟩
theorem Tryz.laysSort:Go.Proofs.SlLaysM.n5 Tryz.prog Tryz.laysSort_ren:={
 mixed:=by kernel_rfl
 f5:=⟨Tryz.f195.name,by decide,Tryz.func195.trans (congrArg some (by kernel_rfl))⟩
 f7:=⟨Tryz.f256.name,by decide,Tryz.func256.trans (congrArg some (by kernel_rfl))⟩
 f8:=Tryz.func257.trans (congrArg some (by kernel_rfl))
 f10:=⟨Tryz.f296.name,by decide,Tryz.func296.trans (congrArg some (by kernel_rfl))⟩
 f11:=⟨Tryz.f297.name,by decide,Tryz.func297.trans (congrArg some (by kernel_rfl))⟩
 f12:=⟨Tryz.f298.name,by decide,Tryz.func298.trans (congrArg some (by kernel_rfl))⟩
 f13:=⟨Tryz.f299.name,by decide,Tryz.func299.trans (congrArg some (by kernel_rfl))⟩
 f14:=⟨Tryz.f300.name,by decide,Tryz.func300.trans (congrArg some (by kernel_rfl))⟩
 f15:=⟨Tryz.f301.name,by decide,Tryz.func301.trans (congrArg some (by kernel_rfl))⟩
 f16:=⟨Tryz.f302.name,by decide,Tryz.func302.trans (congrArg some (by kernel_rfl))⟩
 f17:=⟨Tryz.f303.name,by decide,Tryz.func303.trans (congrArg some (by kernel_rfl))⟩
 f18:=⟨Tryz.f304.name,by decide,Tryz.func304.trans (congrArg some (by kernel_rfl))⟩
 f19:=Tryz.func305.trans (congrArg some (by kernel_rfl))
 f20:=Tryz.func306.trans (congrArg some (by kernel_rfl))
 f30:=⟨Tryz.f327.name,by decide,Tryz.func327.trans (congrArg some (by kernel_rfl))⟩
 f31:=Tryz.func328.trans (congrArg some (by kernel_rfl))
 f32:=Tryz.func329.trans (congrArg some (by kernel_rfl))
 f33:=⟨Tryz.f330.name,by decide,Tryz.func330.trans (congrArg some (by kernel_rfl))⟩
 f34:=⟨Tryz.f331.name,by decide,Tryz.func331.trans (congrArg some (by kernel_rfl))⟩
 f35:=⟨Tryz.f332.name,by decide,Tryz.func332.trans (congrArg some (by kernel_rfl))⟩
 f40:=⟨Tryz.f347.name,by decide,Tryz.func347.trans (congrArg some (by kernel_rfl))⟩
 t0:=Tryz.underlying0
 a0:=Tryz.isAgg0
 z0:=Tryz.sizeOf0
 v0:=Tryz.zeroValue0
 t3:=Tryz.underlying3
 a3:=Tryz.isAgg3
 z3:=Tryz.sizeOf3
 v3:=Tryz.zeroValue3
 t4:=Tryz.underlying4
 a4:=Tryz.isAgg4
 z4:=Tryz.sizeOf4
 v4:=Tryz.zeroValue4
 t5:=Tryz.underlying5
 a5:=Tryz.isAgg5
 z5:=Tryz.sizeOf5
 v5:=Tryz.zeroValue5
 t9:=Tryz.underlying9
 a9:=Tryz.isAgg9
 z9:=Tryz.sizeOf9
 v9:=Tryz.zeroValue9
 t22:=Tryz.underlying38
 a22:=Tryz.isAgg38
 z22:=Tryz.sizeOf38
 v22:=Tryz.zeroValue38
 t23:=Tryz.underlying38
 a23:=Tryz.isAgg38
 z23:=Tryz.sizeOf38
 v23:=Tryz.zeroValue38
 t25:=Tryz.underlying2
 a25:=Tryz.isAgg2
 z25:=Tryz.sizeOf2
 v25:=Tryz.zeroValue2
 t32:=Tryz.underlying154
 a32:=Tryz.isAgg154
 z32:=Tryz.sizeOf154
 v32:=Tryz.zeroValue154
 t35:=Tryz.underlying345
 a35:=Tryz.isAgg345
 z35:=Tryz.sizeOf345
 v35:=Tryz.zeroValue345
 t36:=Tryz.underlying346
 a36:=Tryz.isAgg346
 z36:=Tryz.sizeOf346
 v36:=Tryz.zeroValue346
 t41:=Tryz.underlying283
 a41:=Tryz.isAgg283
 z41:=Tryz.sizeOf283
 v41:=Tryz.zeroValue283
 t44:=Tryz.underlying352
 a44:=Tryz.isAgg352
 z44:=Tryz.sizeOf352
 v44:=Tryz.zeroValue352
 t46:=Tryz.underlying153
 a46:=Tryz.isAgg153
 z46:=Tryz.sizeOf153
 v46:=Tryz.zeroValue153
 t53:=Tryz.underlying374
 a53:=Tryz.isAgg374
 z53:=Tryz.sizeOf374
 v53:=Tryz.zeroValue374
 t57:=Tryz.underlying378
 a57:=Tryz.isAgg378
 z57:=Tryz.sizeOf378
 v57:=Tryz.zeroValue378
 t63:=Tryz.underlying389
 a63:=Tryz.isAgg389
 z63:=Tryz.sizeOf389
 v63:=Tryz.zeroValue389
 t64:=Tryz.underlying390
 a64:=Tryz.isAgg390
 z64:=Tryz.sizeOf390
 v64:=Tryz.zeroValue390}
def Tryz.laysCompact_ren:Go.Shelf.Ren:=⟨λ| 43=>196 | n=>n,λ| 22=>38 | 23=>2 | 3=>3 | 4=>4 | 0=>0 | n=>n,λ| n=>n⟩
theorem Tryz.laysCompact:Go.Proofs.SlLaysE.n43 Tryz.prog Tryz.laysCompact_ren:={
 mixed:=by kernel_rfl
 f43:=⟨Tryz.f196.name,by decide,Tryz.func196.trans (congrArg some (by kernel_rfl))⟩
 t0:=Tryz.underlying0
 a0:=Tryz.isAgg0
 z0:=Tryz.sizeOf0
 v0:=Tryz.zeroValue0
 t3:=Tryz.underlying3
 a3:=Tryz.isAgg3
 z3:=Tryz.sizeOf3
 v3:=Tryz.zeroValue3
 t4:=Tryz.underlying4
 a4:=Tryz.isAgg4
 z4:=Tryz.sizeOf4
 v4:=Tryz.zeroValue4
 t22:=Tryz.underlying38
 a22:=Tryz.isAgg38
 z22:=Tryz.sizeOf38
 v22:=Tryz.zeroValue38
 a23:=Tryz.isAgg2
 z23:=Tryz.sizeOf2}
end Go.Proofs
