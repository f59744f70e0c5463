/-
  DERIVED: THE SHELF's CONTRACTS AT THIS DUMP, IN PLAIN WORDS (tools/lay-plain.mjs out of 'YtgjjlgodlhhdoaaGreatDoorShL.lean', which tools/lay-shelf.mjs wrote): THE SAME DECLARATIONS UNDER THE SAME NAMES: 'import', 'namespace', 'open', 'def', 'theorem' AND NOTHING ELSE: no command of the shelf's: FOR A HAND-IN. Each laying: the table of numbers ('.._ren') and one theorem, a field a fact of the dump's own or the kernel's comparison; each contract: ONE APPLICATION.
-/
import Derived.Test.YtgjjlgodlhhdoaaGreatDoorProg
import Derived.Ground.NamesProg
import Derived.Shelf.Strings.SlTrimAscii
import Derived.Shelf.Small.Strs
import Derived.Test.YtgjjlgodlhhdoaaGreatDoorProg
namespace Go.Proofs
open Go.Shelf
def Tryz.lays160_ren:Go.Shelf.Ren:=⟨fun | 160=>258 | 232=>307 | 231=>306 | 227=>308 | 234=>310 | 233=>309 | 236=>312 | 235=>311 | 228=>346 | 271=>349 | 151=>348 | 197=>347 | 120=>372 | 152=>371 | 260=>370 | 137=>259 | 119=>384 | 224=>385 | 225=>386 | 217=>313 | 266=>350 | n=>n,fun | 9=>9 | 4=>4 | 3=>3 | 5=>5 | 117=>354 | 116=>353 | 0=>0 | 124=>357 | 21=>21 | 105=>389 | 46=>253 | 119=>416 | 139=>419 | 138=>418 | n=>n,fun | 3=>1 | 4=>2 | n=>n⟩
theorem Tryz.lays160:Go.Proofs.Lays.n160 Tryz.prog Tryz.lays160_ren:={
 mixed:=by kernel_rfl
 f119:=Tryz.func384.trans (congrArg some (by kernel_rfl))
 f120:=Tryz.func372.trans (congrArg some (by kernel_rfl))
 f137:=Tryz.func259.trans (congrArg some (by kernel_rfl))
 f151:=Tryz.func348.trans (congrArg some (by kernel_rfl))
 f152:=Tryz.func371.trans (congrArg some (by kernel_rfl))
 f160:=Tryz.func258.trans (congrArg some (by kernel_rfl))
 f197:=Tryz.func347.trans (congrArg some (by kernel_rfl))
 f217:=Tryz.func313.trans (congrArg some (by kernel_rfl))
 f224:=Tryz.func385.trans (congrArg some (by kernel_rfl))
 f225:=Tryz.func386.trans (congrArg some (by kernel_rfl))
 f227:=Tryz.func308.trans (congrArg some (by kernel_rfl))
 f228:=Tryz.func346.trans (congrArg some (by kernel_rfl))
 f231:=Tryz.func306.trans (congrArg some (by kernel_rfl))
 f232:=Tryz.func307.trans (congrArg some (by kernel_rfl))
 f233:=Tryz.func309.trans (congrArg some (by kernel_rfl))
 f234:=Tryz.func310.trans (congrArg some (by kernel_rfl))
 f235:=Tryz.func311.trans (congrArg some (by kernel_rfl))
 f236:=Tryz.func312.trans (congrArg some (by kernel_rfl))
 f260:=Tryz.func370.trans (congrArg some (by kernel_rfl))
 f266:=Tryz.func350.trans (congrArg some (by kernel_rfl))
 f271:=Tryz.func349.trans (congrArg some (by kernel_rfl))
 t0:=Tryz.underlying0
 a0:=Tryz.isAgg0
 z0:=Tryz.sizeOf0
 v0:=Tryz.zeroValue0
 t3:=Tryz.underlying3
 a3:=Tryz.isAgg3
 z3:=Tryz.sizeOf3
 v3:=Tryz.zeroValue3
 t4:=Tryz.underlying4
 a4:=Tryz.isAgg4
 z4:=Tryz.sizeOf4
 v4:=Tryz.zeroValue4
 t5:=Tryz.underlying5
 a5:=Tryz.isAgg5
 z5:=Tryz.sizeOf5
 v5:=Tryz.zeroValue5
 t9:=Tryz.underlying9
 a9:=Tryz.isAgg9
 z9:=Tryz.sizeOf9
 v9:=Tryz.zeroValue9
 t21:=Tryz.underlying21
 a21:=Tryz.isAgg21
 z21:=Tryz.sizeOf21
 v21:=Tryz.zeroValue21
 t46:=Tryz.underlying253
 a46:=Tryz.isAgg253
 z46:=Tryz.sizeOf253
 v46:=Tryz.zeroValue253
 t105:=Tryz.underlying389
 a105:=Tryz.isAgg389
 z105:=Tryz.sizeOf389
 v105:=Tryz.zeroValue389
 t116:=Tryz.underlying353
 a116:=Tryz.isAgg353
 z116:=Tryz.sizeOf353
 t117:=Tryz.underlying354
 a117:=Tryz.isAgg354
 z117:=Tryz.sizeOf354
 v117:=Tryz.zeroValue354
 t119:=Tryz.underlying416
 a119:=Tryz.isAgg416
 z119:=Tryz.sizeOf416
 t124:=Tryz.underlying357
 a124:=Tryz.isAgg357
 z124:=Tryz.sizeOf357
 v124:=Tryz.zeroValue357
 t138:=Tryz.underlying418
 a138:=Tryz.isAgg418
 z138:=Tryz.sizeOf418
 v138:=Tryz.zeroValue418
 t139:=Tryz.underlying419
 a139:=Tryz.isAgg419
 z139:=Tryz.sizeOf419
 v139:=Tryz.zeroValue419
 g3:=by kernel_rfl
 g4:=by kernel_rfl}
def Tryz.lays137_ren:Go.Shelf.Ren:=⟨fun | 137=>259 | 217=>313 | 266=>350 | n=>n,fun | 9=>9 | 5=>5 | 3=>3 | n=>n,fun | n=>n⟩
theorem Tryz.lays137:Go.Proofs.Lays.n137 Tryz.prog Tryz.lays137_ren:={
 mixed:=by kernel_rfl
 f137:=Tryz.func259.trans (congrArg some (by kernel_rfl))
 f217:=Tryz.func313.trans (congrArg some (by kernel_rfl))
 f266:=Tryz.func350.trans (congrArg some (by kernel_rfl))
 t3:=Tryz.underlying3
 a3:=Tryz.isAgg3
 z3:=Tryz.sizeOf3
 v3:=Tryz.zeroValue3
 t5:=Tryz.underlying5
 a5:=Tryz.isAgg5
 z5:=Tryz.sizeOf5
 v5:=Tryz.zeroValue5
 t9:=Tryz.underlying9
 a9:=Tryz.isAgg9
 z9:=Tryz.sizeOf9
 v9:=Tryz.zeroValue9}
end Go.Proofs
