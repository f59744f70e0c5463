/-
  DERIVED: THE SHELF's CONTRACTS AT THIS DUMP, IN PLAIN WORDS (tools/lay-plain.mjs out of 'YtepbknolmhmipaaGreatDoorShL.lean', which tools/lay-shelf.mjs wrote): THE SAME DECLARATIONS UNDER THE SAME NAMES: 'import', 'namespace', 'open', 'def', 'theorem' AND NOTHING ELSE: no command of the shelf's: FOR A HAND-IN. Each laying: the table of numbers ('.._ren') and one theorem, a field a fact of the dump's own or the kernel's comparison; each contract: ONE APPLICATION.
-/
import Derived.Test.YtepbknolmhmipaaGreatDoorProg
import Derived.Ground.NamesProg
import Derived.Shelf.Strings.SlTrimAscii
import Derived.Shelf.Small.Strs
import Derived.Test.YtepbknolmhmipaaGreatDoorProg
namespace Go.Proofs
open Go.Shelf
def Tryz.lays160_ren:Go.Shelf.Ren:=⟨fun | 160=>320 | 232=>348 | 231=>347 | 227=>349 | 234=>351 | 233=>350 | 236=>353 | 235=>352 | 228=>375 | 271=>378 | 151=>377 | 197=>376 | 120=>396 | 152=>395 | 260=>394 | 137=>321 | 119=>403 | 224=>404 | 225=>405 | 217=>354 | 266=>379 | n=>n,fun | 9=>9 | 4=>4 | 3=>3 | 5=>5 | 117=>417 | 116=>416 | 0=>0 | 124=>420 | 21=>21 | 105=>441 | 46=>407 | 119=>462 | 139=>465 | 138=>464 | n=>n,fun | 3=>3 | 4=>4 | n=>n⟩
theorem Tryz.lays160:Go.Proofs.Lays.n160 Tryz.prog Tryz.lays160_ren:={
 mixed:=by kernel_rfl
 f119:=Tryz.func403.trans (congrArg some (by kernel_rfl))
 f120:=Tryz.func396.trans (congrArg some (by kernel_rfl))
 f137:=Tryz.func321.trans (congrArg some (by kernel_rfl))
 f151:=Tryz.func377.trans (congrArg some (by kernel_rfl))
 f152:=Tryz.func395.trans (congrArg some (by kernel_rfl))
 f160:=Tryz.func320.trans (congrArg some (by kernel_rfl))
 f197:=Tryz.func376.trans (congrArg some (by kernel_rfl))
 f217:=Tryz.func354.trans (congrArg some (by kernel_rfl))
 f224:=Tryz.func404.trans (congrArg some (by kernel_rfl))
 f225:=Tryz.func405.trans (congrArg some (by kernel_rfl))
 f227:=Tryz.func349.trans (congrArg some (by kernel_rfl))
 f228:=Tryz.func375.trans (congrArg some (by kernel_rfl))
 f231:=Tryz.func347.trans (congrArg some (by kernel_rfl))
 f232:=Tryz.func348.trans (congrArg some (by kernel_rfl))
 f233:=Tryz.func350.trans (congrArg some (by kernel_rfl))
 f234:=Tryz.func351.trans (congrArg some (by kernel_rfl))
 f235:=Tryz.func352.trans (congrArg some (by kernel_rfl))
 f236:=Tryz.func353.trans (congrArg some (by kernel_rfl))
 f260:=Tryz.func394.trans (congrArg some (by kernel_rfl))
 f266:=Tryz.func379.trans (congrArg some (by kernel_rfl))
 f271:=Tryz.func378.trans (congrArg some (by kernel_rfl))
 t0:=Tryz.underlying0
 a0:=Tryz.isAgg0
 z0:=Tryz.sizeOf0
 v0:=Tryz.zeroValue0
 t3:=Tryz.underlying3
 a3:=Tryz.isAgg3
 z3:=Tryz.sizeOf3
 v3:=Tryz.zeroValue3
 t4:=Tryz.underlying4
 a4:=Tryz.isAgg4
 z4:=Tryz.sizeOf4
 v4:=Tryz.zeroValue4
 t5:=Tryz.underlying5
 a5:=Tryz.isAgg5
 z5:=Tryz.sizeOf5
 v5:=Tryz.zeroValue5
 t9:=Tryz.underlying9
 a9:=Tryz.isAgg9
 z9:=Tryz.sizeOf9
 v9:=Tryz.zeroValue9
 t21:=Tryz.underlying21
 a21:=Tryz.isAgg21
 z21:=Tryz.sizeOf21
 v21:=Tryz.zeroValue21
 t46:=Tryz.underlying407
 a46:=Tryz.isAgg407
 z46:=Tryz.sizeOf407
 v46:=Tryz.zeroValue407
 t105:=Tryz.underlying441
 a105:=Tryz.isAgg441
 z105:=Tryz.sizeOf441
 v105:=Tryz.zeroValue441
 t116:=Tryz.underlying416
 a116:=Tryz.isAgg416
 z116:=Tryz.sizeOf416
 t117:=Tryz.underlying417
 a117:=Tryz.isAgg417
 z117:=Tryz.sizeOf417
 v117:=Tryz.zeroValue417
 t119:=Tryz.underlying462
 a119:=Tryz.isAgg462
 z119:=Tryz.sizeOf462
 t124:=Tryz.underlying420
 a124:=Tryz.isAgg420
 z124:=Tryz.sizeOf420
 v124:=Tryz.zeroValue420
 t138:=Tryz.underlying464
 a138:=Tryz.isAgg464
 z138:=Tryz.sizeOf464
 v138:=Tryz.zeroValue464
 t139:=Tryz.underlying465
 a139:=Tryz.isAgg465
 z139:=Tryz.sizeOf465
 v139:=Tryz.zeroValue465
 g3:=by kernel_rfl
 g4:=by kernel_rfl}
def Tryz.lays137_ren:Go.Shelf.Ren:=⟨fun | 137=>321 | 217=>354 | 266=>379 | n=>n,fun | 9=>9 | 5=>5 | 3=>3 | n=>n,fun | n=>n⟩
theorem Tryz.lays137:Go.Proofs.Lays.n137 Tryz.prog Tryz.lays137_ren:={
 mixed:=by kernel_rfl
 f137:=Tryz.func321.trans (congrArg some (by kernel_rfl))
 f217:=Tryz.func354.trans (congrArg some (by kernel_rfl))
 f266:=Tryz.func379.trans (congrArg some (by kernel_rfl))
 t3:=Tryz.underlying3
 a3:=Tryz.isAgg3
 z3:=Tryz.sizeOf3
 v3:=Tryz.zeroValue3
 t5:=Tryz.underlying5
 a5:=Tryz.isAgg5
 z5:=Tryz.sizeOf5
 v5:=Tryz.zeroValue5
 t9:=Tryz.underlying9
 a9:=Tryz.isAgg9
 z9:=Tryz.sizeOf9
 v9:=Tryz.zeroValue9}
end Go.Proofs
