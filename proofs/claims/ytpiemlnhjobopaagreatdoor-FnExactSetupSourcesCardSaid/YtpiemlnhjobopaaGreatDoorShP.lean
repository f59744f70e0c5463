/-
  DERIVED: THE SHELF's CONTRACTS AT THIS DUMP, IN PLAIN WORDS (tools/lay-plain.mjs out of 'YtpiemlnhjobopaaGreatDoorShL.lean', which tools/lay-shelf.mjs wrote): THE SAME DECLARATIONS UNDER THE SAME NAMES: 'import', 'namespace', 'open', 'def', 'theorem' AND NOTHING ELSE: no command of the shelf's: FOR A HAND-IN. Each laying: the table of numbers ('.._ren') and one theorem, a field a fact of the dump's own or the kernel's comparison; each contract: ONE APPLICATION.
-/
import Derived.Test.YtpiemlnhjobopaaGreatDoorProg
import Derived.Ground.NamesProg
import Derived.Shelf.Strings.SlTrimAscii
import Derived.Shelf.Small.Strs
import Derived.Test.YtpiemlnhjobopaaGreatDoorProg
namespace Go.Proofs
open Go.Shelf
def Tryz.lays160_ren:Go.Shelf.Ren:=⟨fun | 160=>292 | 232=>326 | 231=>325 | 227=>327 | 234=>329 | 233=>328 | 236=>331 | 235=>330 | 228=>348 | 271=>351 | 151=>350 | 197=>349 | 120=>366 | 152=>365 | 260=>364 | 137=>293 | 119=>376 | 224=>377 | 225=>378 | 217=>332 | 266=>352 | n=>n,fun | 9=>9 | 4=>4 | 3=>3 | 5=>5 | 117=>415 | 116=>414 | 0=>0 | 124=>418 | 21=>21 | 105=>438 | 46=>314 | 119=>454 | 139=>457 | 138=>456 | n=>n,fun | 3=>1 | 4=>2 | n=>n⟩
theorem Tryz.lays160:Go.Proofs.Lays.n160 Tryz.prog Tryz.lays160_ren:={
 mixed:=by kernel_rfl
 f119:=Tryz.func376.trans (congrArg some (by kernel_rfl))
 f120:=Tryz.func366.trans (congrArg some (by kernel_rfl))
 f137:=Tryz.func293.trans (congrArg some (by kernel_rfl))
 f151:=Tryz.func350.trans (congrArg some (by kernel_rfl))
 f152:=Tryz.func365.trans (congrArg some (by kernel_rfl))
 f160:=Tryz.func292.trans (congrArg some (by kernel_rfl))
 f197:=Tryz.func349.trans (congrArg some (by kernel_rfl))
 f217:=Tryz.func332.trans (congrArg some (by kernel_rfl))
 f224:=Tryz.func377.trans (congrArg some (by kernel_rfl))
 f225:=Tryz.func378.trans (congrArg some (by kernel_rfl))
 f227:=Tryz.func327.trans (congrArg some (by kernel_rfl))
 f228:=Tryz.func348.trans (congrArg some (by kernel_rfl))
 f231:=Tryz.func325.trans (congrArg some (by kernel_rfl))
 f232:=Tryz.func326.trans (congrArg some (by kernel_rfl))
 f233:=Tryz.func328.trans (congrArg some (by kernel_rfl))
 f234:=Tryz.func329.trans (congrArg some (by kernel_rfl))
 f235:=Tryz.func330.trans (congrArg some (by kernel_rfl))
 f236:=Tryz.func331.trans (congrArg some (by kernel_rfl))
 f260:=Tryz.func364.trans (congrArg some (by kernel_rfl))
 f266:=Tryz.func352.trans (congrArg some (by kernel_rfl))
 f271:=Tryz.func351.trans (congrArg some (by kernel_rfl))
 t0:=Tryz.underlying0
 a0:=Tryz.isAgg0
 z0:=Tryz.sizeOf0
 v0:=Tryz.zeroValue0
 t3:=Tryz.underlying3
 a3:=Tryz.isAgg3
 z3:=Tryz.sizeOf3
 v3:=Tryz.zeroValue3
 t4:=Tryz.underlying4
 a4:=Tryz.isAgg4
 z4:=Tryz.sizeOf4
 v4:=Tryz.zeroValue4
 t5:=Tryz.underlying5
 a5:=Tryz.isAgg5
 z5:=Tryz.sizeOf5
 v5:=Tryz.zeroValue5
 t9:=Tryz.underlying9
 a9:=Tryz.isAgg9
 z9:=Tryz.sizeOf9
 v9:=Tryz.zeroValue9
 t21:=Tryz.underlying21
 a21:=Tryz.isAgg21
 z21:=Tryz.sizeOf21
 v21:=Tryz.zeroValue21
 t46:=Tryz.underlying314
 a46:=Tryz.isAgg314
 z46:=Tryz.sizeOf314
 v46:=Tryz.zeroValue314
 t105:=Tryz.underlying438
 a105:=Tryz.isAgg438
 z105:=Tryz.sizeOf438
 v105:=Tryz.zeroValue438
 t116:=Tryz.underlying414
 a116:=Tryz.isAgg414
 z116:=Tryz.sizeOf414
 t117:=Tryz.underlying415
 a117:=Tryz.isAgg415
 z117:=Tryz.sizeOf415
 v117:=Tryz.zeroValue415
 t119:=Tryz.underlying454
 a119:=Tryz.isAgg454
 z119:=Tryz.sizeOf454
 t124:=Tryz.underlying418
 a124:=Tryz.isAgg418
 z124:=Tryz.sizeOf418
 v124:=Tryz.zeroValue418
 t138:=Tryz.underlying456
 a138:=Tryz.isAgg456
 z138:=Tryz.sizeOf456
 v138:=Tryz.zeroValue456
 t139:=Tryz.underlying457
 a139:=Tryz.isAgg457
 z139:=Tryz.sizeOf457
 v139:=Tryz.zeroValue457
 g3:=by kernel_rfl
 g4:=by kernel_rfl}
def Tryz.lays137_ren:Go.Shelf.Ren:=⟨fun | 137=>293 | 217=>332 | 266=>352 | n=>n,fun | 9=>9 | 5=>5 | 3=>3 | n=>n,fun | n=>n⟩
theorem Tryz.lays137:Go.Proofs.Lays.n137 Tryz.prog Tryz.lays137_ren:={
 mixed:=by kernel_rfl
 f137:=Tryz.func293.trans (congrArg some (by kernel_rfl))
 f217:=Tryz.func332.trans (congrArg some (by kernel_rfl))
 f266:=Tryz.func352.trans (congrArg some (by kernel_rfl))
 t3:=Tryz.underlying3
 a3:=Tryz.isAgg3
 z3:=Tryz.sizeOf3
 v3:=Tryz.zeroValue3
 t5:=Tryz.underlying5
 a5:=Tryz.isAgg5
 z5:=Tryz.sizeOf5
 v5:=Tryz.zeroValue5
 t9:=Tryz.underlying9
 a9:=Tryz.isAgg9
 z9:=Tryz.sizeOf9
 v9:=Tryz.zeroValue9}
end Go.Proofs
