/-
  slices.Sort and slices.Compact of numbers: their contracts, by the kit's summaries.
-/
import Derived.Test.YtdabmnfkcnkkbaaGreatDoorSxS0
import Derived.Test.YtdabmnfkcnkkbaaGreatDoorSxSort
import Derived.Test.YtdabmnfkcnkkbaaGreatDoorShS
namespace Go.Proofs.YtdabmnfkcnkkbaaGreatDoor
set_option linter.unusedVariables false
set_option linter.unusedSimpArgs false
open Go Go.Sx
def ZkV:Ctr:=Ztd 2
theorem ZoQ:ZV Tryz.prog 98 ZkV :=
 Zqo Tryz.laysSort 2 ⟨_,Tryz.func98,by kernel_rfl,by kernel_rfl⟩
def Zhq:Ctr:=ZnP 2
theorem Zmc:ZV Tryz.prog 99 Zhq :=
 Zm8 Tryz.laysCompact 2 Tryz.zeroValue2 ⟨_,Tryz.func99,by kernel_rfl,by kernel_rfl⟩
end Go.Proofs.YtdabmnfkcnkkbaaGreatDoor
