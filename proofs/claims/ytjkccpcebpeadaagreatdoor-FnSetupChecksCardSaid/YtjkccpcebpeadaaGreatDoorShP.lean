/-
  DERIVED: THE SHELF's CONTRACTS AT THIS DUMP, IN PLAIN WORDS (tools/lay-plain.mjs out of 'YtjkccpcebpeadaaGreatDoorShL.lean', which tools/lay-shelf.mjs wrote): THE SAME DECLARATIONS UNDER THE SAME NAMES: 'import', 'namespace', 'open', 'def', 'theorem' AND NOTHING ELSE: no command of the shelf's: FOR A HAND-IN. Each laying: the table of numbers ('.._ren') and one theorem, a field a fact of the dump's own or the kernel's comparison; each contract: ONE APPLICATION.
-/
import Derived.Test.YtjkccpcebpeadaaGreatDoorProg
import Derived.Ground.NamesProg
import Derived.Shelf.Strings.SlTrimAscii
import Derived.Shelf.Small.Strs
import Derived.Test.YtjkccpcebpeadaaGreatDoorProg
namespace Go.Proofs
open Go.Shelf
def Tryz.lays160_ren:Go.Shelf.Ren:=⟨fun | 160=>236 | 232=>279 | 231=>278 | 227=>280 | 234=>282 | 233=>281 | 236=>284 | 235=>283 | 228=>314 | 271=>317 | 151=>316 | 197=>315 | 120=>333 | 152=>332 | 260=>331 | 137=>237 | 119=>343 | 224=>344 | 225=>345 | 217=>285 | 266=>318 | n=>n,fun | 9=>9 | 4=>4 | 3=>3 | 5=>5 | 117=>344 | 116=>343 | 0=>0 | 124=>347 | 21=>21 | 105=>373 | 46=>238 | 119=>390 | 139=>393 | 138=>392 | n=>n,fun | 3=>1 | 4=>2 | n=>n⟩
theorem Tryz.lays160:Go.Proofs.Lays.n160 Tryz.prog Tryz.lays160_ren:={
 mixed:=by kernel_rfl
 f119:=Tryz.func343.trans (congrArg some (by kernel_rfl))
 f120:=Tryz.func333.trans (congrArg some (by kernel_rfl))
 f137:=Tryz.func237.trans (congrArg some (by kernel_rfl))
 f151:=Tryz.func316.trans (congrArg some (by kernel_rfl))
 f152:=Tryz.func332.trans (congrArg some (by kernel_rfl))
 f160:=Tryz.func236.trans (congrArg some (by kernel_rfl))
 f197:=Tryz.func315.trans (congrArg some (by kernel_rfl))
 f217:=Tryz.func285.trans (congrArg some (by kernel_rfl))
 f224:=Tryz.func344.trans (congrArg some (by kernel_rfl))
 f225:=Tryz.func345.trans (congrArg some (by kernel_rfl))
 f227:=Tryz.func280.trans (congrArg some (by kernel_rfl))
 f228:=Tryz.func314.trans (congrArg some (by kernel_rfl))
 f231:=Tryz.func278.trans (congrArg some (by kernel_rfl))
 f232:=Tryz.func279.trans (congrArg some (by kernel_rfl))
 f233:=Tryz.func281.trans (congrArg some (by kernel_rfl))
 f234:=Tryz.func282.trans (congrArg some (by kernel_rfl))
 f235:=Tryz.func283.trans (congrArg some (by kernel_rfl))
 f236:=Tryz.func284.trans (congrArg some (by kernel_rfl))
 f260:=Tryz.func331.trans (congrArg some (by kernel_rfl))
 f266:=Tryz.func318.trans (congrArg some (by kernel_rfl))
 f271:=Tryz.func317.trans (congrArg some (by kernel_rfl))
 t0:=Tryz.underlying0
 a0:=Tryz.isAgg0
 z0:=Tryz.sizeOf0
 v0:=Tryz.zeroValue0
 t3:=Tryz.underlying3
 a3:=Tryz.isAgg3
 z3:=Tryz.sizeOf3
 v3:=Tryz.zeroValue3
 t4:=Tryz.underlying4
 a4:=Tryz.isAgg4
 z4:=Tryz.sizeOf4
 v4:=Tryz.zeroValue4
 t5:=Tryz.underlying5
 a5:=Tryz.isAgg5
 z5:=Tryz.sizeOf5
 v5:=Tryz.zeroValue5
 t9:=Tryz.underlying9
 a9:=Tryz.isAgg9
 z9:=Tryz.sizeOf9
 v9:=Tryz.zeroValue9
 t21:=Tryz.underlying21
 a21:=Tryz.isAgg21
 z21:=Tryz.sizeOf21
 v21:=Tryz.zeroValue21
 t46:=Tryz.underlying238
 a46:=Tryz.isAgg238
 z46:=Tryz.sizeOf238
 v46:=Tryz.zeroValue238
 t105:=Tryz.underlying373
 a105:=Tryz.isAgg373
 z105:=Tryz.sizeOf373
 v105:=Tryz.zeroValue373
 t116:=Tryz.underlying343
 a116:=Tryz.isAgg343
 z116:=Tryz.sizeOf343
 t117:=Tryz.underlying344
 a117:=Tryz.isAgg344
 z117:=Tryz.sizeOf344
 v117:=Tryz.zeroValue344
 t119:=Tryz.underlying390
 a119:=Tryz.isAgg390
 z119:=Tryz.sizeOf390
 t124:=Tryz.underlying347
 a124:=Tryz.isAgg347
 z124:=Tryz.sizeOf347
 v124:=Tryz.zeroValue347
 t138:=Tryz.underlying392
 a138:=Tryz.isAgg392
 z138:=Tryz.sizeOf392
 v138:=Tryz.zeroValue392
 t139:=Tryz.underlying393
 a139:=Tryz.isAgg393
 z139:=Tryz.sizeOf393
 v139:=Tryz.zeroValue393
 g3:=by kernel_rfl
 g4:=by kernel_rfl}
def Tryz.lays137_ren:Go.Shelf.Ren:=⟨fun | 137=>237 | 217=>285 | 266=>318 | n=>n,fun | 9=>9 | 5=>5 | 3=>3 | n=>n,fun | n=>n⟩
theorem Tryz.lays137:Go.Proofs.Lays.n137 Tryz.prog Tryz.lays137_ren:={
 mixed:=by kernel_rfl
 f137:=Tryz.func237.trans (congrArg some (by kernel_rfl))
 f217:=Tryz.func285.trans (congrArg some (by kernel_rfl))
 f266:=Tryz.func318.trans (congrArg some (by kernel_rfl))
 t3:=Tryz.underlying3
 a3:=Tryz.isAgg3
 z3:=Tryz.sizeOf3
 v3:=Tryz.zeroValue3
 t5:=Tryz.underlying5
 a5:=Tryz.isAgg5
 z5:=Tryz.sizeOf5
 v5:=Tryz.zeroValue5
 t9:=Tryz.underlying9
 a9:=Tryz.isAgg9
 z9:=Tryz.sizeOf9
 v9:=Tryz.zeroValue9}
end Go.Proofs
