/-
  DERIVED: THE SHELF's CONTRACTS AT THIS DUMP, IN PLAIN WORDS (tools/lay-plain.mjs out of 'YtclfgjepbamnlaaGreatDoorShL.lean', which tools/lay-shelf.mjs wrote): THE SAME DECLARATIONS UNDER THE SAME NAMES: 'import', 'namespace', 'open', 'def', 'theorem' AND NOTHING ELSE: no command of the shelf's: FOR A HAND-IN. Each laying: the table of numbers ('.._ren') and one theorem, a field a fact of the dump's own or the kernel's comparison; each contract: ONE APPLICATION.
-/
import Derived.Test.YtclfgjepbamnlaaGreatDoorProg
import Derived.Ground.NamesProg
import Derived.Shelf.Strings.SlTrimAscii
import Derived.Shelf.Small.Strs
import Derived.Test.YtclfgjepbamnlaaGreatDoorProg
namespace Go.Proofs
open Go.Shelf
def Tryz.lays160_ren:Go.Shelf.Ren:=⟨fun | 160=>261 | 232=>308 | 231=>307 | 227=>309 | 234=>311 | 233=>310 | 236=>313 | 235=>312 | 228=>350 | 271=>353 | 151=>352 | 197=>351 | 120=>381 | 152=>380 | 260=>379 | 137=>262 | 119=>393 | 224=>394 | 225=>395 | 217=>314 | 266=>354 | n=>n,fun | 9=>9 | 4=>4 | 3=>3 | 5=>5 | 117=>369 | 116=>368 | 0=>0 | 124=>372 | 21=>21 | 105=>406 | 46=>352 | 119=>437 | 139=>440 | 138=>439 | n=>n,fun | 3=>1 | 4=>2 | n=>n⟩
theorem Tryz.lays160:Go.Proofs.Lays.n160 Tryz.prog Tryz.lays160_ren:={
 mixed:=by kernel_rfl
 f119:=Tryz.func393.trans (congrArg some (by kernel_rfl))
 f120:=Tryz.func381.trans (congrArg some (by kernel_rfl))
 f137:=Tryz.func262.trans (congrArg some (by kernel_rfl))
 f151:=Tryz.func352.trans (congrArg some (by kernel_rfl))
 f152:=Tryz.func380.trans (congrArg some (by kernel_rfl))
 f160:=Tryz.func261.trans (congrArg some (by kernel_rfl))
 f197:=Tryz.func351.trans (congrArg some (by kernel_rfl))
 f217:=Tryz.func314.trans (congrArg some (by kernel_rfl))
 f224:=Tryz.func394.trans (congrArg some (by kernel_rfl))
 f225:=Tryz.func395.trans (congrArg some (by kernel_rfl))
 f227:=Tryz.func309.trans (congrArg some (by kernel_rfl))
 f228:=Tryz.func350.trans (congrArg some (by kernel_rfl))
 f231:=Tryz.func307.trans (congrArg some (by kernel_rfl))
 f232:=Tryz.func308.trans (congrArg some (by kernel_rfl))
 f233:=Tryz.func310.trans (congrArg some (by kernel_rfl))
 f234:=Tryz.func311.trans (congrArg some (by kernel_rfl))
 f235:=Tryz.func312.trans (congrArg some (by kernel_rfl))
 f236:=Tryz.func313.trans (congrArg some (by kernel_rfl))
 f260:=Tryz.func379.trans (congrArg some (by kernel_rfl))
 f266:=Tryz.func354.trans (congrArg some (by kernel_rfl))
 f271:=Tryz.func353.trans (congrArg some (by kernel_rfl))
 t0:=Tryz.underlying0
 a0:=Tryz.isAgg0
 z0:=Tryz.sizeOf0
 v0:=Tryz.zeroValue0
 t3:=Tryz.underlying3
 a3:=Tryz.isAgg3
 z3:=Tryz.sizeOf3
 v3:=Tryz.zeroValue3
 t4:=Tryz.underlying4
 a4:=Tryz.isAgg4
 z4:=Tryz.sizeOf4
 v4:=Tryz.zeroValue4
 t5:=Tryz.underlying5
 a5:=Tryz.isAgg5
 z5:=Tryz.sizeOf5
 v5:=Tryz.zeroValue5
 t9:=Tryz.underlying9
 a9:=Tryz.isAgg9
 z9:=Tryz.sizeOf9
 v9:=Tryz.zeroValue9
 t21:=Tryz.underlying21
 a21:=Tryz.isAgg21
 z21:=Tryz.sizeOf21
 v21:=Tryz.zeroValue21
 t46:=Tryz.underlying352
 a46:=Tryz.isAgg352
 z46:=Tryz.sizeOf352
 v46:=Tryz.zeroValue352
 t105:=Tryz.underlying406
 a105:=Tryz.isAgg406
 z105:=Tryz.sizeOf406
 v105:=Tryz.zeroValue406
 t116:=Tryz.underlying368
 a116:=Tryz.isAgg368
 z116:=Tryz.sizeOf368
 t117:=Tryz.underlying369
 a117:=Tryz.isAgg369
 z117:=Tryz.sizeOf369
 v117:=Tryz.zeroValue369
 t119:=Tryz.underlying437
 a119:=Tryz.isAgg437
 z119:=Tryz.sizeOf437
 t124:=Tryz.underlying372
 a124:=Tryz.isAgg372
 z124:=Tryz.sizeOf372
 v124:=Tryz.zeroValue372
 t138:=Tryz.underlying439
 a138:=Tryz.isAgg439
 z138:=Tryz.sizeOf439
 v138:=Tryz.zeroValue439
 t139:=Tryz.underlying440
 a139:=Tryz.isAgg440
 z139:=Tryz.sizeOf440
 v139:=Tryz.zeroValue440
 g3:=by kernel_rfl
 g4:=by kernel_rfl}
def Tryz.lays137_ren:Go.Shelf.Ren:=⟨fun | 137=>262 | 217=>314 | 266=>354 | n=>n,fun | 9=>9 | 5=>5 | 3=>3 | n=>n,fun | n=>n⟩
theorem Tryz.lays137:Go.Proofs.Lays.n137 Tryz.prog Tryz.lays137_ren:={
 mixed:=by kernel_rfl
 f137:=Tryz.func262.trans (congrArg some (by kernel_rfl))
 f217:=Tryz.func314.trans (congrArg some (by kernel_rfl))
 f266:=Tryz.func354.trans (congrArg some (by kernel_rfl))
 t3:=Tryz.underlying3
 a3:=Tryz.isAgg3
 z3:=Tryz.sizeOf3
 v3:=Tryz.zeroValue3
 t5:=Tryz.underlying5
 a5:=Tryz.isAgg5
 z5:=Tryz.sizeOf5
 v5:=Tryz.zeroValue5
 t9:=Tryz.underlying9
 a9:=Tryz.isAgg9
 z9:=Tryz.sizeOf9
 v9:=Tryz.zeroValue9}
end Go.Proofs
