/-
  DERIVED: THE SHELF's CONTRACTS AT THIS DUMP, IN PLAIN WORDS (tools/lay-plain.mjs out of 'YtoefbkmllkpkkaaGreatDoorShL.lean', which tools/lay-shelf.mjs wrote): THE SAME DECLARATIONS UNDER THE SAME NAMES: 'import', 'namespace', 'open', 'def', 'theorem' AND NOTHING ELSE: no command of the shelf's: FOR A HAND-IN. Each laying: the table of numbers ('.._ren') and one theorem, a field a fact of the dump's own or the kernel's comparison; each contract: ONE APPLICATION.
-/
import Derived.Test.YtoefbkmllkpkkaaGreatDoorProg
import Derived.Ground.NamesProg
import Derived.Shelf.Strings.SlTrimAscii
import Derived.Shelf.Small.Strs
import Derived.Test.YtoefbkmllkpkkaaGreatDoorProg
namespace Go.Proofs
open Go.Shelf
def Tryz.lays160_ren:Go.Shelf.Ren:=⟨fun | 160=>252 | 232=>283 | 231=>282 | 227=>284 | 234=>286 | 233=>285 | 236=>288 | 235=>287 | 228=>300 | 271=>303 | 151=>302 | 197=>301 | 120=>315 | 152=>314 | 260=>313 | 137=>253 | 119=>323 | 224=>324 | 225=>325 | 217=>289 | 266=>304 | n=>n,fun | 9=>9 | 4=>4 | 3=>3 | 5=>5 | 117=>351 | 116=>350 | 0=>0 | 124=>354 | 21=>21 | 105=>365 | 46=>343 | 119=>377 | 139=>380 | 138=>379 | n=>n,fun | 3=>1 | 4=>2 | n=>n⟩
theorem Tryz.lays160:Go.Proofs.Lays.n160 Tryz.prog Tryz.lays160_ren:={
 mixed:=by kernel_rfl
 f119:=Tryz.func323.trans (congrArg some (by kernel_rfl))
 f120:=Tryz.func315.trans (congrArg some (by kernel_rfl))
 f137:=Tryz.func253.trans (congrArg some (by kernel_rfl))
 f151:=Tryz.func302.trans (congrArg some (by kernel_rfl))
 f152:=Tryz.func314.trans (congrArg some (by kernel_rfl))
 f160:=Tryz.func252.trans (congrArg some (by kernel_rfl))
 f197:=Tryz.func301.trans (congrArg some (by kernel_rfl))
 f217:=Tryz.func289.trans (congrArg some (by kernel_rfl))
 f224:=Tryz.func324.trans (congrArg some (by kernel_rfl))
 f225:=Tryz.func325.trans (congrArg some (by kernel_rfl))
 f227:=Tryz.func284.trans (congrArg some (by kernel_rfl))
 f228:=Tryz.func300.trans (congrArg some (by kernel_rfl))
 f231:=Tryz.func282.trans (congrArg some (by kernel_rfl))
 f232:=Tryz.func283.trans (congrArg some (by kernel_rfl))
 f233:=Tryz.func285.trans (congrArg some (by kernel_rfl))
 f234:=Tryz.func286.trans (congrArg some (by kernel_rfl))
 f235:=Tryz.func287.trans (congrArg some (by kernel_rfl))
 f236:=Tryz.func288.trans (congrArg some (by kernel_rfl))
 f260:=Tryz.func313.trans (congrArg some (by kernel_rfl))
 f266:=Tryz.func304.trans (congrArg some (by kernel_rfl))
 f271:=Tryz.func303.trans (congrArg some (by kernel_rfl))
 t0:=Tryz.underlying0
 a0:=Tryz.isAgg0
 z0:=Tryz.sizeOf0
 v0:=Tryz.zeroValue0
 t3:=Tryz.underlying3
 a3:=Tryz.isAgg3
 z3:=Tryz.sizeOf3
 v3:=Tryz.zeroValue3
 t4:=Tryz.underlying4
 a4:=Tryz.isAgg4
 z4:=Tryz.sizeOf4
 v4:=Tryz.zeroValue4
 t5:=Tryz.underlying5
 a5:=Tryz.isAgg5
 z5:=Tryz.sizeOf5
 v5:=Tryz.zeroValue5
 t9:=Tryz.underlying9
 a9:=Tryz.isAgg9
 z9:=Tryz.sizeOf9
 v9:=Tryz.zeroValue9
 t21:=Tryz.underlying21
 a21:=Tryz.isAgg21
 z21:=Tryz.sizeOf21
 v21:=Tryz.zeroValue21
 t46:=Tryz.underlying343
 a46:=Tryz.isAgg343
 z46:=Tryz.sizeOf343
 v46:=Tryz.zeroValue343
 t105:=Tryz.underlying365
 a105:=Tryz.isAgg365
 z105:=Tryz.sizeOf365
 v105:=Tryz.zeroValue365
 t116:=Tryz.underlying350
 a116:=Tryz.isAgg350
 z116:=Tryz.sizeOf350
 t117:=Tryz.underlying351
 a117:=Tryz.isAgg351
 z117:=Tryz.sizeOf351
 v117:=Tryz.zeroValue351
 t119:=Tryz.underlying377
 a119:=Tryz.isAgg377
 z119:=Tryz.sizeOf377
 t124:=Tryz.underlying354
 a124:=Tryz.isAgg354
 z124:=Tryz.sizeOf354
 v124:=Tryz.zeroValue354
 t138:=Tryz.underlying379
 a138:=Tryz.isAgg379
 z138:=Tryz.sizeOf379
 v138:=Tryz.zeroValue379
 t139:=Tryz.underlying380
 a139:=Tryz.isAgg380
 z139:=Tryz.sizeOf380
 v139:=Tryz.zeroValue380
 g3:=by kernel_rfl
 g4:=by kernel_rfl}
def Tryz.lays137_ren:Go.Shelf.Ren:=⟨fun | 137=>253 | 217=>289 | 266=>304 | n=>n,fun | 9=>9 | 5=>5 | 3=>3 | n=>n,fun | n=>n⟩
theorem Tryz.lays137:Go.Proofs.Lays.n137 Tryz.prog Tryz.lays137_ren:={
 mixed:=by kernel_rfl
 f137:=Tryz.func253.trans (congrArg some (by kernel_rfl))
 f217:=Tryz.func289.trans (congrArg some (by kernel_rfl))
 f266:=Tryz.func304.trans (congrArg some (by kernel_rfl))
 t3:=Tryz.underlying3
 a3:=Tryz.isAgg3
 z3:=Tryz.sizeOf3
 v3:=Tryz.zeroValue3
 t5:=Tryz.underlying5
 a5:=Tryz.isAgg5
 z5:=Tryz.sizeOf5
 v5:=Tryz.zeroValue5
 t9:=Tryz.underlying9
 a9:=Tryz.isAgg9
 z9:=Tryz.sizeOf9
 v9:=Tryz.zeroValue9}
end Go.Proofs
