/-
  DERIVED: THE SHELF's CONTRACTS AT THIS DUMP, IN PLAIN WORDS (tools/lay-plain.mjs out of 'YthkhedimjmkifaaGreatDoorShL.lean', which tools/lay-shelf.mjs wrote): THE SAME DECLARATIONS UNDER THE SAME NAMES: 'import', 'namespace', 'open', 'def', 'theorem' AND NOTHING ELSE: no command of the shelf's: FOR A HAND-IN. Each laying: the table of numbers ('.._ren') and one theorem, a field a fact of the dump's own or the kernel's comparison; each contract: ONE APPLICATION.
-/
import Derived.Test.YthkhedimjmkifaaGreatDoorProg
import Derived.Ground.NamesProg
import Derived.Shelf.Strings.SlTrimAscii
import Derived.Shelf.Small.Strs
import Derived.Test.YthkhedimjmkifaaGreatDoorProg
namespace Go.Proofs
open Go.Shelf
def Tryz.lays160_ren:Go.Shelf.Ren:=⟨fun | 160=>302 | 232=>329 | 231=>328 | 227=>330 | 234=>332 | 233=>331 | 236=>334 | 235=>333 | 228=>348 | 271=>351 | 151=>350 | 197=>349 | 120=>365 | 152=>364 | 260=>363 | 137=>303 | 119=>373 | 224=>374 | 225=>375 | 217=>335 | 266=>352 | n=>n,fun | 9=>9 | 4=>4 | 3=>3 | 5=>5 | 117=>381 | 116=>380 | 0=>0 | 124=>384 | 21=>21 | 105=>396 | 46=>375 | 119=>411 | 139=>414 | 138=>413 | n=>n,fun | 3=>1 | 4=>2 | n=>n⟩
theorem Tryz.lays160:Go.Proofs.Lays.n160 Tryz.prog Tryz.lays160_ren:={
 mixed:=by kernel_rfl
 f119:=Tryz.func373.trans (congrArg some (by kernel_rfl))
 f120:=Tryz.func365.trans (congrArg some (by kernel_rfl))
 f137:=Tryz.func303.trans (congrArg some (by kernel_rfl))
 f151:=Tryz.func350.trans (congrArg some (by kernel_rfl))
 f152:=Tryz.func364.trans (congrArg some (by kernel_rfl))
 f160:=Tryz.func302.trans (congrArg some (by kernel_rfl))
 f197:=Tryz.func349.trans (congrArg some (by kernel_rfl))
 f217:=Tryz.func335.trans (congrArg some (by kernel_rfl))
 f224:=Tryz.func374.trans (congrArg some (by kernel_rfl))
 f225:=Tryz.func375.trans (congrArg some (by kernel_rfl))
 f227:=Tryz.func330.trans (congrArg some (by kernel_rfl))
 f228:=Tryz.func348.trans (congrArg some (by kernel_rfl))
 f231:=Tryz.func328.trans (congrArg some (by kernel_rfl))
 f232:=Tryz.func329.trans (congrArg some (by kernel_rfl))
 f233:=Tryz.func331.trans (congrArg some (by kernel_rfl))
 f234:=Tryz.func332.trans (congrArg some (by kernel_rfl))
 f235:=Tryz.func333.trans (congrArg some (by kernel_rfl))
 f236:=Tryz.func334.trans (congrArg some (by kernel_rfl))
 f260:=Tryz.func363.trans (congrArg some (by kernel_rfl))
 f266:=Tryz.func352.trans (congrArg some (by kernel_rfl))
 f271:=Tryz.func351.trans (congrArg some (by kernel_rfl))
 t0:=Tryz.underlying0
 a0:=Tryz.isAgg0
 z0:=Tryz.sizeOf0
 v0:=Tryz.zeroValue0
 t3:=Tryz.underlying3
 a3:=Tryz.isAgg3
 z3:=Tryz.sizeOf3
 v3:=Tryz.zeroValue3
 t4:=Tryz.underlying4
 a4:=Tryz.isAgg4
 z4:=Tryz.sizeOf4
 v4:=Tryz.zeroValue4
 t5:=Tryz.underlying5
 a5:=Tryz.isAgg5
 z5:=Tryz.sizeOf5
 v5:=Tryz.zeroValue5
 t9:=Tryz.underlying9
 a9:=Tryz.isAgg9
 z9:=Tryz.sizeOf9
 v9:=Tryz.zeroValue9
 t21:=Tryz.underlying21
 a21:=Tryz.isAgg21
 z21:=Tryz.sizeOf21
 v21:=Tryz.zeroValue21
 t46:=Tryz.underlying375
 a46:=Tryz.isAgg375
 z46:=Tryz.sizeOf375
 v46:=Tryz.zeroValue375
 t105:=Tryz.underlying396
 a105:=Tryz.isAgg396
 z105:=Tryz.sizeOf396
 v105:=Tryz.zeroValue396
 t116:=Tryz.underlying380
 a116:=Tryz.isAgg380
 z116:=Tryz.sizeOf380
 t117:=Tryz.underlying381
 a117:=Tryz.isAgg381
 z117:=Tryz.sizeOf381
 v117:=Tryz.zeroValue381
 t119:=Tryz.underlying411
 a119:=Tryz.isAgg411
 z119:=Tryz.sizeOf411
 t124:=Tryz.underlying384
 a124:=Tryz.isAgg384
 z124:=Tryz.sizeOf384
 v124:=Tryz.zeroValue384
 t138:=Tryz.underlying413
 a138:=Tryz.isAgg413
 z138:=Tryz.sizeOf413
 v138:=Tryz.zeroValue413
 t139:=Tryz.underlying414
 a139:=Tryz.isAgg414
 z139:=Tryz.sizeOf414
 v139:=Tryz.zeroValue414
 g3:=by kernel_rfl
 g4:=by kernel_rfl}
def Tryz.lays137_ren:Go.Shelf.Ren:=⟨fun | 137=>303 | 217=>335 | 266=>352 | n=>n,fun | 9=>9 | 5=>5 | 3=>3 | n=>n,fun | n=>n⟩
theorem Tryz.lays137:Go.Proofs.Lays.n137 Tryz.prog Tryz.lays137_ren:={
 mixed:=by kernel_rfl
 f137:=Tryz.func303.trans (congrArg some (by kernel_rfl))
 f217:=Tryz.func335.trans (congrArg some (by kernel_rfl))
 f266:=Tryz.func352.trans (congrArg some (by kernel_rfl))
 t3:=Tryz.underlying3
 a3:=Tryz.isAgg3
 z3:=Tryz.sizeOf3
 v3:=Tryz.zeroValue3
 t5:=Tryz.underlying5
 a5:=Tryz.isAgg5
 z5:=Tryz.sizeOf5
 v5:=Tryz.zeroValue5
 t9:=Tryz.underlying9
 a9:=Tryz.isAgg9
 z9:=Tryz.sizeOf9
 v9:=Tryz.zeroValue9}
end Go.Proofs
