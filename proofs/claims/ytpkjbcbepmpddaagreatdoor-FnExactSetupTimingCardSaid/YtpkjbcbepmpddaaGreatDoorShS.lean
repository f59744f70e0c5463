/-
  DERIVED: THE SHELF's CONTRACTS AT THIS DUMP, IN PLAIN WORDS (tools/lay-plain.mjs out of 'YtpkjbcbepmpddaaGreatDoorShL.lean', which tools/lay-shelf.mjs wrote): THE SAME DECLARATIONS UNDER THE SAME NAMES: 'import', 'namespace', 'open', 'def', 'theorem' AND NOTHING ELSE: no command of the shelf's: FOR A HAND-IN. Each laying: the table of numbers ('.._ren') and one theorem, a field a fact of the dump's own or the kernel's comparison; each contract: ONE APPLICATION.
-/
import Derived.Test.YtpkjbcbepmpddaaGreatDoorProg
import Derived.Ground.SlgmProg
import Derived.Ground.SlgnProg
import Derived.Shelf.SlGeneric
import Derived.Shelf.SortM.Plain
import Derived.Shelf.SlicesE.Compact
namespace Go.Proofs
open Go.Shelf
def Tryz.laysSort_ren:Go.Shelf.Ren:=⟨λ| 5=>155 | 8=>211 | 7=>210 | 19=>259 | 20=>260 | 10=>250 | 11=>251 | 12=>252 | 13=>253 | 14=>254 | 15=>255 | 16=>256 | 17=>257 | 18=>258 | 30=>300 | 31=>301 | 32=>302 | 33=>303 | 34=>304 | 35=>215 | 40=>329 | n=>n,λ| 23=>84 | 25=>2 | 3=>3 | 32=>314 | 22=>84 | 0=>0 | 44=>358 | 46=>360 | 4=>4 | 36=>351 | 35=>350 | 41=>355 | 5=>5 | 9=>9 | 53=>391 | 57=>395 | 63=>414 | 64=>415 | n=>n,λ| n=>n⟩
theorem Tryz.laysSort:Go.Proofs.SlLaysM.n5 Tryz.prog Tryz.laysSort_ren:={
 mixed:=by kernel_rfl
 f5:=⟨Tryz.f155.name,by decide,Tryz.func155.trans (congrArg some (by kernel_rfl))⟩
 f7:=⟨Tryz.f210.name,by decide,Tryz.func210.trans (congrArg some (by kernel_rfl))⟩
 f8:=Tryz.func211.trans (congrArg some (by kernel_rfl))
 f10:=⟨Tryz.f250.name,by decide,Tryz.func250.trans (congrArg some (by kernel_rfl))⟩
 f11:=⟨Tryz.f251.name,by decide,Tryz.func251.trans (congrArg some (by kernel_rfl))⟩
 f12:=⟨Tryz.f252.name,by decide,Tryz.func252.trans (congrArg some (by kernel_rfl))⟩
 f13:=⟨Tryz.f253.name,by decide,Tryz.func253.trans (congrArg some (by kernel_rfl))⟩
 f14:=⟨Tryz.f254.name,by decide,Tryz.func254.trans (congrArg some (by kernel_rfl))⟩
 f15:=⟨Tryz.f255.name,by decide,Tryz.func255.trans (congrArg some (by kernel_rfl))⟩
 f16:=⟨Tryz.f256.name,by decide,Tryz.func256.trans (congrArg some (by kernel_rfl))⟩
 f17:=⟨Tryz.f257.name,by decide,Tryz.func257.trans (congrArg some (by kernel_rfl))⟩
 f18:=⟨Tryz.f258.name,by decide,Tryz.func258.trans (congrArg some (by kernel_rfl))⟩
 f19:=Tryz.func259.trans (congrArg some (by kernel_rfl))
 f20:=Tryz.func260.trans (congrArg some (by kernel_rfl))
 f30:=⟨Tryz.f300.name,by decide,Tryz.func300.trans (congrArg some (by kernel_rfl))⟩
 f31:=Tryz.func301.trans (congrArg some (by kernel_rfl))
 f32:=Tryz.func302.trans (congrArg some (by kernel_rfl))
 f33:=⟨Tryz.f303.name,by decide,Tryz.func303.trans (congrArg some (by kernel_rfl))⟩
 f34:=⟨Tryz.f304.name,by decide,Tryz.func304.trans (congrArg some (by kernel_rfl))⟩
 f35:=⟨Tryz.f215.name,by decide,Tryz.func215.trans (congrArg some (by kernel_rfl))⟩
 f40:=⟨Tryz.f329.name,by decide,Tryz.func329.trans (congrArg some (by kernel_rfl))⟩
 t0:=Tryz.underlying0
 a0:=Tryz.isAgg0
 z0:=Tryz.sizeOf0
 v0:=Tryz.zeroValue0
 t3:=Tryz.underlying3
 a3:=Tryz.isAgg3
 z3:=Tryz.sizeOf3
 v3:=Tryz.zeroValue3
 t4:=Tryz.underlying4
 a4:=Tryz.isAgg4
 z4:=Tryz.sizeOf4
 v4:=Tryz.zeroValue4
 t5:=Tryz.underlying5
 a5:=Tryz.isAgg5
 z5:=Tryz.sizeOf5
 v5:=Tryz.zeroValue5
 t9:=Tryz.underlying9
 a9:=Tryz.isAgg9
 z9:=Tryz.sizeOf9
 v9:=Tryz.zeroValue9
 t22:=Tryz.underlying84
 a22:=Tryz.isAgg84
 z22:=Tryz.sizeOf84
 v22:=Tryz.zeroValue84
 t23:=Tryz.underlying84
 a23:=Tryz.isAgg84
 z23:=Tryz.sizeOf84
 v23:=Tryz.zeroValue84
 t25:=Tryz.underlying2
 a25:=Tryz.isAgg2
 z25:=Tryz.sizeOf2
 v25:=Tryz.zeroValue2
 t32:=Tryz.underlying314
 a32:=Tryz.isAgg314
 z32:=Tryz.sizeOf314
 v32:=Tryz.zeroValue314
 t35:=Tryz.underlying350
 a35:=Tryz.isAgg350
 z35:=Tryz.sizeOf350
 v35:=Tryz.zeroValue350
 t36:=Tryz.underlying351
 a36:=Tryz.isAgg351
 z36:=Tryz.sizeOf351
 v36:=Tryz.zeroValue351
 t41:=Tryz.underlying355
 a41:=Tryz.isAgg355
 z41:=Tryz.sizeOf355
 v41:=Tryz.zeroValue355
 t44:=Tryz.underlying358
 a44:=Tryz.isAgg358
 z44:=Tryz.sizeOf358
 v44:=Tryz.zeroValue358
 t46:=Tryz.underlying360
 a46:=Tryz.isAgg360
 z46:=Tryz.sizeOf360
 v46:=Tryz.zeroValue360
 t53:=Tryz.underlying391
 a53:=Tryz.isAgg391
 z53:=Tryz.sizeOf391
 v53:=Tryz.zeroValue391
 t57:=Tryz.underlying395
 a57:=Tryz.isAgg395
 z57:=Tryz.sizeOf395
 v57:=Tryz.zeroValue395
 t63:=Tryz.underlying414
 a63:=Tryz.isAgg414
 z63:=Tryz.sizeOf414
 v63:=Tryz.zeroValue414
 t64:=Tryz.underlying415
 a64:=Tryz.isAgg415
 z64:=Tryz.sizeOf415
 v64:=Tryz.zeroValue415}
end Go.Proofs
