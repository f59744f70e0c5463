/-
  DERIVED: THE SHELF's CONTRACTS AT THIS DUMP, IN PLAIN WORDS (tools/lay-plain.mjs out of 'YtcjminfjgckdlaaGreatDoorShL.lean', which tools/lay-shelf.mjs wrote): THE SAME DECLARATIONS UNDER THE SAME NAMES: 'import', 'namespace', 'open', 'def', 'theorem' AND NOTHING ELSE: no command of the shelf's: FOR A HAND-IN. Each laying: the table of numbers ('.._ren') and one theorem, a field a fact of the dump's own or the kernel's comparison; each contract: ONE APPLICATION.
-/
import Derived.Test.YtcjminfjgckdlaaGreatDoorProg
import Derived.Ground.NamesProg
import Derived.Shelf.Strings.SlTrimAscii
import Derived.Shelf.Small.Strs
import Derived.Test.YtcjminfjgckdlaaGreatDoorProg
namespace Go.Proofs
open Go.Shelf
def Tryz.lays160_ren:Go.Shelf.Ren:=⟨fun | 160=>230 | 232=>276 | 231=>275 | 227=>277 | 234=>279 | 233=>278 | 236=>281 | 235=>280 | 228=>322 | 271=>325 | 151=>324 | 197=>323 | 120=>352 | 152=>351 | 260=>350 | 137=>231 | 119=>365 | 224=>366 | 225=>367 | 217=>282 | 266=>326 | n=>n,fun | 9=>9 | 4=>4 | 3=>3 | 5=>5 | 117=>331 | 116=>330 | 0=>0 | 124=>334 | 21=>21 | 105=>367 | 46=>224 | 119=>403 | 139=>406 | 138=>405 | n=>n,fun | 3=>1 | 4=>2 | n=>n⟩
theorem Tryz.lays160:Go.Proofs.Lays.n160 Tryz.prog Tryz.lays160_ren:={
 mixed:=by kernel_rfl
 f119:=Tryz.func365.trans (congrArg some (by kernel_rfl))
 f120:=Tryz.func352.trans (congrArg some (by kernel_rfl))
 f137:=Tryz.func231.trans (congrArg some (by kernel_rfl))
 f151:=Tryz.func324.trans (congrArg some (by kernel_rfl))
 f152:=Tryz.func351.trans (congrArg some (by kernel_rfl))
 f160:=Tryz.func230.trans (congrArg some (by kernel_rfl))
 f197:=Tryz.func323.trans (congrArg some (by kernel_rfl))
 f217:=Tryz.func282.trans (congrArg some (by kernel_rfl))
 f224:=Tryz.func366.trans (congrArg some (by kernel_rfl))
 f225:=Tryz.func367.trans (congrArg some (by kernel_rfl))
 f227:=Tryz.func277.trans (congrArg some (by kernel_rfl))
 f228:=Tryz.func322.trans (congrArg some (by kernel_rfl))
 f231:=Tryz.func275.trans (congrArg some (by kernel_rfl))
 f232:=Tryz.func276.trans (congrArg some (by kernel_rfl))
 f233:=Tryz.func278.trans (congrArg some (by kernel_rfl))
 f234:=Tryz.func279.trans (congrArg some (by kernel_rfl))
 f235:=Tryz.func280.trans (congrArg some (by kernel_rfl))
 f236:=Tryz.func281.trans (congrArg some (by kernel_rfl))
 f260:=Tryz.func350.trans (congrArg some (by kernel_rfl))
 f266:=Tryz.func326.trans (congrArg some (by kernel_rfl))
 f271:=Tryz.func325.trans (congrArg some (by kernel_rfl))
 t0:=Tryz.underlying0
 a0:=Tryz.isAgg0
 z0:=Tryz.sizeOf0
 v0:=Tryz.zeroValue0
 t3:=Tryz.underlying3
 a3:=Tryz.isAgg3
 z3:=Tryz.sizeOf3
 v3:=Tryz.zeroValue3
 t4:=Tryz.underlying4
 a4:=Tryz.isAgg4
 z4:=Tryz.sizeOf4
 v4:=Tryz.zeroValue4
 t5:=Tryz.underlying5
 a5:=Tryz.isAgg5
 z5:=Tryz.sizeOf5
 v5:=Tryz.zeroValue5
 t9:=Tryz.underlying9
 a9:=Tryz.isAgg9
 z9:=Tryz.sizeOf9
 v9:=Tryz.zeroValue9
 t21:=Tryz.underlying21
 a21:=Tryz.isAgg21
 z21:=Tryz.sizeOf21
 v21:=Tryz.zeroValue21
 t46:=Tryz.underlying224
 a46:=Tryz.isAgg224
 z46:=Tryz.sizeOf224
 v46:=Tryz.zeroValue224
 t105:=Tryz.underlying367
 a105:=Tryz.isAgg367
 z105:=Tryz.sizeOf367
 v105:=Tryz.zeroValue367
 t116:=Tryz.underlying330
 a116:=Tryz.isAgg330
 z116:=Tryz.sizeOf330
 t117:=Tryz.underlying331
 a117:=Tryz.isAgg331
 z117:=Tryz.sizeOf331
 v117:=Tryz.zeroValue331
 t119:=Tryz.underlying403
 a119:=Tryz.isAgg403
 z119:=Tryz.sizeOf403
 t124:=Tryz.underlying334
 a124:=Tryz.isAgg334
 z124:=Tryz.sizeOf334
 v124:=Tryz.zeroValue334
 t138:=Tryz.underlying405
 a138:=Tryz.isAgg405
 z138:=Tryz.sizeOf405
 v138:=Tryz.zeroValue405
 t139:=Tryz.underlying406
 a139:=Tryz.isAgg406
 z139:=Tryz.sizeOf406
 v139:=Tryz.zeroValue406
 g3:=by kernel_rfl
 g4:=by kernel_rfl}
def Tryz.lays137_ren:Go.Shelf.Ren:=⟨fun | 137=>231 | 217=>282 | 266=>326 | n=>n,fun | 9=>9 | 5=>5 | 3=>3 | n=>n,fun | n=>n⟩
theorem Tryz.lays137:Go.Proofs.Lays.n137 Tryz.prog Tryz.lays137_ren:={
 mixed:=by kernel_rfl
 f137:=Tryz.func231.trans (congrArg some (by kernel_rfl))
 f217:=Tryz.func282.trans (congrArg some (by kernel_rfl))
 f266:=Tryz.func326.trans (congrArg some (by kernel_rfl))
 t3:=Tryz.underlying3
 a3:=Tryz.isAgg3
 z3:=Tryz.sizeOf3
 v3:=Tryz.zeroValue3
 t5:=Tryz.underlying5
 a5:=Tryz.isAgg5
 z5:=Tryz.sizeOf5
 v5:=Tryz.zeroValue5
 t9:=Tryz.underlying9
 a9:=Tryz.isAgg9
 z9:=Tryz.sizeOf9
 v9:=Tryz.zeroValue9}
end Go.Proofs
