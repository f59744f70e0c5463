/-
  DERIVED: THE SHELF's CONTRACTS AT THIS DUMP, IN PLAIN WORDS (tools/lay-plain.mjs out of 'YtpkjbcbepmpddaaGreatDoorShL.lean', which tools/lay-shelf.mjs wrote): THE SAME DECLARATIONS UNDER THE SAME NAMES: 'import', 'namespace', 'open', 'def', 'theorem' AND NOTHING ELSE: no command of the shelf's: FOR A HAND-IN. Each laying: the table of numbers ('.._ren') and one theorem, a field a fact of the dump's own or the kernel's comparison; each contract: ONE APPLICATION.
-/
import Derived.Test.YtpkjbcbepmpddaaGreatDoorProg
import Derived.Ground.NamesProg
import Derived.Shelf.Strings.SlTrimAscii
import Derived.Shelf.Small.Strs
import Derived.Test.YtpkjbcbepmpddaaGreatDoorProg
namespace Go.Proofs
open Go.Shelf
def Tryz.lays160_ren:Go.Shelf.Ren:=⟨fun | 160=>326 | 232=>344 | 231=>343 | 227=>345 | 234=>347 | 233=>346 | 236=>349 | 235=>348 | 228=>359 | 271=>362 | 151=>361 | 197=>360 | 120=>374 | 152=>373 | 260=>372 | 137=>327 | 119=>377 | 224=>378 | 225=>379 | 217=>350 | 266=>363 | n=>n,fun | 9=>9 | 4=>4 | 3=>3 | 5=>5 | 117=>434 | 116=>433 | 0=>0 | 124=>437 | 21=>21 | 105=>442 | 46=>314 | 119=>450 | 139=>453 | 138=>452 | n=>n,fun | 3=>1 | 4=>2 | n=>n⟩
theorem Tryz.lays160:Go.Proofs.Lays.n160 Tryz.prog Tryz.lays160_ren:={
 mixed:=by kernel_rfl
 f119:=Tryz.func377.trans (congrArg some (by kernel_rfl))
 f120:=Tryz.func374.trans (congrArg some (by kernel_rfl))
 f137:=Tryz.func327.trans (congrArg some (by kernel_rfl))
 f151:=Tryz.func361.trans (congrArg some (by kernel_rfl))
 f152:=Tryz.func373.trans (congrArg some (by kernel_rfl))
 f160:=Tryz.func326.trans (congrArg some (by kernel_rfl))
 f197:=Tryz.func360.trans (congrArg some (by kernel_rfl))
 f217:=Tryz.func350.trans (congrArg some (by kernel_rfl))
 f224:=Tryz.func378.trans (congrArg some (by kernel_rfl))
 f225:=Tryz.func379.trans (congrArg some (by kernel_rfl))
 f227:=Tryz.func345.trans (congrArg some (by kernel_rfl))
 f228:=Tryz.func359.trans (congrArg some (by kernel_rfl))
 f231:=Tryz.func343.trans (congrArg some (by kernel_rfl))
 f232:=Tryz.func344.trans (congrArg some (by kernel_rfl))
 f233:=Tryz.func346.trans (congrArg some (by kernel_rfl))
 f234:=Tryz.func347.trans (congrArg some (by kernel_rfl))
 f235:=Tryz.func348.trans (congrArg some (by kernel_rfl))
 f236:=Tryz.func349.trans (congrArg some (by kernel_rfl))
 f260:=Tryz.func372.trans (congrArg some (by kernel_rfl))
 f266:=Tryz.func363.trans (congrArg some (by kernel_rfl))
 f271:=Tryz.func362.trans (congrArg some (by kernel_rfl))
 t0:=Tryz.underlying0
 a0:=Tryz.isAgg0
 z0:=Tryz.sizeOf0
 v0:=Tryz.zeroValue0
 t3:=Tryz.underlying3
 a3:=Tryz.isAgg3
 z3:=Tryz.sizeOf3
 v3:=Tryz.zeroValue3
 t4:=Tryz.underlying4
 a4:=Tryz.isAgg4
 z4:=Tryz.sizeOf4
 v4:=Tryz.zeroValue4
 t5:=Tryz.underlying5
 a5:=Tryz.isAgg5
 z5:=Tryz.sizeOf5
 v5:=Tryz.zeroValue5
 t9:=Tryz.underlying9
 a9:=Tryz.isAgg9
 z9:=Tryz.sizeOf9
 v9:=Tryz.zeroValue9
 t21:=Tryz.underlying21
 a21:=Tryz.isAgg21
 z21:=Tryz.sizeOf21
 v21:=Tryz.zeroValue21
 t46:=Tryz.underlying314
 a46:=Tryz.isAgg314
 z46:=Tryz.sizeOf314
 v46:=Tryz.zeroValue314
 t105:=Tryz.underlying442
 a105:=Tryz.isAgg442
 z105:=Tryz.sizeOf442
 v105:=Tryz.zeroValue442
 t116:=Tryz.underlying433
 a116:=Tryz.isAgg433
 z116:=Tryz.sizeOf433
 t117:=Tryz.underlying434
 a117:=Tryz.isAgg434
 z117:=Tryz.sizeOf434
 v117:=Tryz.zeroValue434
 t119:=Tryz.underlying450
 a119:=Tryz.isAgg450
 z119:=Tryz.sizeOf450
 t124:=Tryz.underlying437
 a124:=Tryz.isAgg437
 z124:=Tryz.sizeOf437
 v124:=Tryz.zeroValue437
 t138:=Tryz.underlying452
 a138:=Tryz.isAgg452
 z138:=Tryz.sizeOf452
 v138:=Tryz.zeroValue452
 t139:=Tryz.underlying453
 a139:=Tryz.isAgg453
 z139:=Tryz.sizeOf453
 v139:=Tryz.zeroValue453
 g3:=by kernel_rfl
 g4:=by kernel_rfl}
def Tryz.lays137_ren:Go.Shelf.Ren:=⟨fun | 137=>327 | 217=>350 | 266=>363 | n=>n,fun | 9=>9 | 5=>5 | 3=>3 | n=>n,fun | n=>n⟩
theorem Tryz.lays137:Go.Proofs.Lays.n137 Tryz.prog Tryz.lays137_ren:={
 mixed:=by kernel_rfl
 f137:=Tryz.func327.trans (congrArg some (by kernel_rfl))
 f217:=Tryz.func350.trans (congrArg some (by kernel_rfl))
 f266:=Tryz.func363.trans (congrArg some (by kernel_rfl))
 t3:=Tryz.underlying3
 a3:=Tryz.isAgg3
 z3:=Tryz.sizeOf3
 v3:=Tryz.zeroValue3
 t5:=Tryz.underlying5
 a5:=Tryz.isAgg5
 z5:=Tryz.sizeOf5
 v5:=Tryz.zeroValue5
 t9:=Tryz.underlying9
 a9:=Tryz.isAgg9
 z9:=Tryz.sizeOf9
 v9:=Tryz.zeroValue9}
end Go.Proofs
