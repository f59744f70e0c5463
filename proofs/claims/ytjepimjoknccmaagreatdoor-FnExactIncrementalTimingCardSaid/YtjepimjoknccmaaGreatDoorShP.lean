/-
  DERIVED: THE SHELF's CONTRACTS AT THIS DUMP, IN PLAIN WORDS (tools/lay-plain.mjs out of 'YtjepimjoknccmaaGreatDoorShL.lean', which tools/lay-shelf.mjs wrote): THE SAME DECLARATIONS UNDER THE SAME NAMES: 'import', 'namespace', 'open', 'def', 'theorem' AND NOTHING ELSE: no command of the shelf's: FOR A HAND-IN. Each laying: the table of numbers ('.._ren') and one theorem, a field a fact of the dump's own or the kernel's comparison; each contract: ONE APPLICATION.
-/
import Derived.Test.YtjepimjoknccmaaGreatDoorProg
import Derived.Ground.NamesProg
import Derived.Shelf.Strings.SlTrimAscii
import Derived.Shelf.Small.Strs
import Derived.Test.YtjepimjoknccmaaGreatDoorProg
namespace Go.Proofs
open Go.Shelf
def Tryz.lays160_ren:Go.Shelf.Ren:=⟨fun | 160=>282 | 232=>326 | 231=>325 | 227=>327 | 234=>329 | 233=>328 | 236=>331 | 235=>330 | 228=>360 | 271=>363 | 151=>362 | 197=>361 | 120=>379 | 152=>378 | 260=>377 | 137=>283 | 119=>388 | 224=>389 | 225=>390 | 217=>332 | 266=>364 | n=>n,fun | 9=>9 | 4=>4 | 3=>3 | 5=>5 | 117=>386 | 116=>385 | 0=>0 | 124=>389 | 21=>21 | 105=>411 | 46=>318 | 119=>434 | 139=>437 | 138=>436 | n=>n,fun | 3=>1 | 4=>2 | n=>n⟩
theorem Tryz.lays160:Go.Proofs.Lays.n160 Tryz.prog Tryz.lays160_ren:={
 mixed:=by kernel_rfl
 f119:=Tryz.func388.trans (congrArg some (by kernel_rfl))
 f120:=Tryz.func379.trans (congrArg some (by kernel_rfl))
 f137:=Tryz.func283.trans (congrArg some (by kernel_rfl))
 f151:=Tryz.func362.trans (congrArg some (by kernel_rfl))
 f152:=Tryz.func378.trans (congrArg some (by kernel_rfl))
 f160:=Tryz.func282.trans (congrArg some (by kernel_rfl))
 f197:=Tryz.func361.trans (congrArg some (by kernel_rfl))
 f217:=Tryz.func332.trans (congrArg some (by kernel_rfl))
 f224:=Tryz.func389.trans (congrArg some (by kernel_rfl))
 f225:=Tryz.func390.trans (congrArg some (by kernel_rfl))
 f227:=Tryz.func327.trans (congrArg some (by kernel_rfl))
 f228:=Tryz.func360.trans (congrArg some (by kernel_rfl))
 f231:=Tryz.func325.trans (congrArg some (by kernel_rfl))
 f232:=Tryz.func326.trans (congrArg some (by kernel_rfl))
 f233:=Tryz.func328.trans (congrArg some (by kernel_rfl))
 f234:=Tryz.func329.trans (congrArg some (by kernel_rfl))
 f235:=Tryz.func330.trans (congrArg some (by kernel_rfl))
 f236:=Tryz.func331.trans (congrArg some (by kernel_rfl))
 f260:=Tryz.func377.trans (congrArg some (by kernel_rfl))
 f266:=Tryz.func364.trans (congrArg some (by kernel_rfl))
 f271:=Tryz.func363.trans (congrArg some (by kernel_rfl))
 t0:=Tryz.underlying0
 a0:=Tryz.isAgg0
 z0:=Tryz.sizeOf0
 v0:=Tryz.zeroValue0
 t3:=Tryz.underlying3
 a3:=Tryz.isAgg3
 z3:=Tryz.sizeOf3
 v3:=Tryz.zeroValue3
 t4:=Tryz.underlying4
 a4:=Tryz.isAgg4
 z4:=Tryz.sizeOf4
 v4:=Tryz.zeroValue4
 t5:=Tryz.underlying5
 a5:=Tryz.isAgg5
 z5:=Tryz.sizeOf5
 v5:=Tryz.zeroValue5
 t9:=Tryz.underlying9
 a9:=Tryz.isAgg9
 z9:=Tryz.sizeOf9
 v9:=Tryz.zeroValue9
 t21:=Tryz.underlying21
 a21:=Tryz.isAgg21
 z21:=Tryz.sizeOf21
 v21:=Tryz.zeroValue21
 t46:=Tryz.underlying318
 a46:=Tryz.isAgg318
 z46:=Tryz.sizeOf318
 v46:=Tryz.zeroValue318
 t105:=Tryz.underlying411
 a105:=Tryz.isAgg411
 z105:=Tryz.sizeOf411
 v105:=Tryz.zeroValue411
 t116:=Tryz.underlying385
 a116:=Tryz.isAgg385
 z116:=Tryz.sizeOf385
 t117:=Tryz.underlying386
 a117:=Tryz.isAgg386
 z117:=Tryz.sizeOf386
 v117:=Tryz.zeroValue386
 t119:=Tryz.underlying434
 a119:=Tryz.isAgg434
 z119:=Tryz.sizeOf434
 t124:=Tryz.underlying389
 a124:=Tryz.isAgg389
 z124:=Tryz.sizeOf389
 v124:=Tryz.zeroValue389
 t138:=Tryz.underlying436
 a138:=Tryz.isAgg436
 z138:=Tryz.sizeOf436
 v138:=Tryz.zeroValue436
 t139:=Tryz.underlying437
 a139:=Tryz.isAgg437
 z139:=Tryz.sizeOf437
 v139:=Tryz.zeroValue437
 g3:=by kernel_rfl
 g4:=by kernel_rfl}
def Tryz.lays137_ren:Go.Shelf.Ren:=⟨fun | 137=>283 | 217=>332 | 266=>364 | n=>n,fun | 9=>9 | 5=>5 | 3=>3 | n=>n,fun | n=>n⟩
theorem Tryz.lays137:Go.Proofs.Lays.n137 Tryz.prog Tryz.lays137_ren:={
 mixed:=by kernel_rfl
 f137:=Tryz.func283.trans (congrArg some (by kernel_rfl))
 f217:=Tryz.func332.trans (congrArg some (by kernel_rfl))
 f266:=Tryz.func364.trans (congrArg some (by kernel_rfl))
 t3:=Tryz.underlying3
 a3:=Tryz.isAgg3
 z3:=Tryz.sizeOf3
 v3:=Tryz.zeroValue3
 t5:=Tryz.underlying5
 a5:=Tryz.isAgg5
 z5:=Tryz.sizeOf5
 v5:=Tryz.zeroValue5
 t9:=Tryz.underlying9
 a9:=Tryz.isAgg9
 z9:=Tryz.sizeOf9
 v9:=Tryz.zeroValue9}
end Go.Proofs
