/-
  DERIVED: THE SHELF's CONTRACTS AT THIS DUMP, IN PLAIN WORDS (tools/lay-plain.mjs out of 'YtioiomifapgimaaGreatDoorShL.lean', which tools/lay-shelf.mjs wrote): THE SAME DECLARATIONS UNDER THE SAME NAMES: 'import', 'namespace', 'open', 'def', 'theorem' AND NOTHING ELSE: no command of the shelf's: FOR A HAND-IN. Each laying: the table of numbers ('.._ren') and one theorem, a field a fact of the dump's own or the kernel's comparison; each contract: ONE APPLICATION.
-/
import Derived.Test.YtioiomifapgimaaGreatDoorProg
import Derived.Ground.NamesProg
import Derived.Shelf.Strings.SlTrimAscii
import Derived.Shelf.Small.Strs
import Derived.Test.YtioiomifapgimaaGreatDoorProg
namespace Go.Proofs
open Go.Shelf
def Tryz.lays160_ren:Go.Shelf.Ren:=⟨fun | 160=>255 | 232=>270 | 231=>269 | 227=>271 | 234=>273 | 233=>272 | 236=>275 | 235=>274 | 228=>285 | 271=>288 | 151=>287 | 197=>286 | 120=>299 | 152=>298 | 260=>297 | 137=>256 | 119=>303 | 224=>304 | 225=>305 | 217=>276 | 266=>289 | n=>n,fun | 9=>9 | 4=>4 | 3=>3 | 5=>5 | 117=>354 | 116=>353 | 0=>0 | 124=>357 | 21=>21 | 105=>365 | 46=>236 | 119=>375 | 139=>378 | 138=>377 | n=>n,fun | 3=>1 | 4=>2 | n=>n⟩
theorem Tryz.lays160:Go.Proofs.Lays.n160 Tryz.prog Tryz.lays160_ren:={
 mixed:=by kernel_rfl
 f119:=Tryz.func303.trans (congrArg some (by kernel_rfl))
 f120:=Tryz.func299.trans (congrArg some (by kernel_rfl))
 f137:=Tryz.func256.trans (congrArg some (by kernel_rfl))
 f151:=Tryz.func287.trans (congrArg some (by kernel_rfl))
 f152:=Tryz.func298.trans (congrArg some (by kernel_rfl))
 f160:=Tryz.func255.trans (congrArg some (by kernel_rfl))
 f197:=Tryz.func286.trans (congrArg some (by kernel_rfl))
 f217:=Tryz.func276.trans (congrArg some (by kernel_rfl))
 f224:=Tryz.func304.trans (congrArg some (by kernel_rfl))
 f225:=Tryz.func305.trans (congrArg some (by kernel_rfl))
 f227:=Tryz.func271.trans (congrArg some (by kernel_rfl))
 f228:=Tryz.func285.trans (congrArg some (by kernel_rfl))
 f231:=Tryz.func269.trans (congrArg some (by kernel_rfl))
 f232:=Tryz.func270.trans (congrArg some (by kernel_rfl))
 f233:=Tryz.func272.trans (congrArg some (by kernel_rfl))
 f234:=Tryz.func273.trans (congrArg some (by kernel_rfl))
 f235:=Tryz.func274.trans (congrArg some (by kernel_rfl))
 f236:=Tryz.func275.trans (congrArg some (by kernel_rfl))
 f260:=Tryz.func297.trans (congrArg some (by kernel_rfl))
 f266:=Tryz.func289.trans (congrArg some (by kernel_rfl))
 f271:=Tryz.func288.trans (congrArg some (by kernel_rfl))
 t0:=Tryz.underlying0
 a0:=Tryz.isAgg0
 z0:=Tryz.sizeOf0
 v0:=Tryz.zeroValue0
 t3:=Tryz.underlying3
 a3:=Tryz.isAgg3
 z3:=Tryz.sizeOf3
 v3:=Tryz.zeroValue3
 t4:=Tryz.underlying4
 a4:=Tryz.isAgg4
 z4:=Tryz.sizeOf4
 v4:=Tryz.zeroValue4
 t5:=Tryz.underlying5
 a5:=Tryz.isAgg5
 z5:=Tryz.sizeOf5
 v5:=Tryz.zeroValue5
 t9:=Tryz.underlying9
 a9:=Tryz.isAgg9
 z9:=Tryz.sizeOf9
 v9:=Tryz.zeroValue9
 t21:=Tryz.underlying21
 a21:=Tryz.isAgg21
 z21:=Tryz.sizeOf21
 v21:=Tryz.zeroValue21
 t46:=Tryz.underlying236
 a46:=Tryz.isAgg236
 z46:=Tryz.sizeOf236
 v46:=Tryz.zeroValue236
 t105:=Tryz.underlying365
 a105:=Tryz.isAgg365
 z105:=Tryz.sizeOf365
 v105:=Tryz.zeroValue365
 t116:=Tryz.underlying353
 a116:=Tryz.isAgg353
 z116:=Tryz.sizeOf353
 t117:=Tryz.underlying354
 a117:=Tryz.isAgg354
 z117:=Tryz.sizeOf354
 v117:=Tryz.zeroValue354
 t119:=Tryz.underlying375
 a119:=Tryz.isAgg375
 z119:=Tryz.sizeOf375
 t124:=Tryz.underlying357
 a124:=Tryz.isAgg357
 z124:=Tryz.sizeOf357
 v124:=Tryz.zeroValue357
 t138:=Tryz.underlying377
 a138:=Tryz.isAgg377
 z138:=Tryz.sizeOf377
 v138:=Tryz.zeroValue377
 t139:=Tryz.underlying378
 a139:=Tryz.isAgg378
 z139:=Tryz.sizeOf378
 v139:=Tryz.zeroValue378
 g3:=by kernel_rfl
 g4:=by kernel_rfl}
def Tryz.lays137_ren:Go.Shelf.Ren:=⟨fun | 137=>256 | 217=>276 | 266=>289 | n=>n,fun | 9=>9 | 5=>5 | 3=>3 | n=>n,fun | n=>n⟩
theorem Tryz.lays137:Go.Proofs.Lays.n137 Tryz.prog Tryz.lays137_ren:={
 mixed:=by kernel_rfl
 f137:=Tryz.func256.trans (congrArg some (by kernel_rfl))
 f217:=Tryz.func276.trans (congrArg some (by kernel_rfl))
 f266:=Tryz.func289.trans (congrArg some (by kernel_rfl))
 t3:=Tryz.underlying3
 a3:=Tryz.isAgg3
 z3:=Tryz.sizeOf3
 v3:=Tryz.zeroValue3
 t5:=Tryz.underlying5
 a5:=Tryz.isAgg5
 z5:=Tryz.sizeOf5
 v5:=Tryz.zeroValue5
 t9:=Tryz.underlying9
 a9:=Tryz.isAgg9
 z9:=Tryz.sizeOf9
 v9:=Tryz.zeroValue9}
end Go.Proofs
