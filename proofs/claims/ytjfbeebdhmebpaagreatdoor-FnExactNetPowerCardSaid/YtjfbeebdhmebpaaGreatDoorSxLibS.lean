/-
  slices.Sort and slices.Compact of numbers: their contracts, by the kit's summaries.
-/
import Derived.Test.YtjfbeebdhmebpaaGreatDoorSxS0
import Derived.Test.YtjfbeebdhmebpaaGreatDoorSxSort
import Derived.Test.YtjfbeebdhmebpaaGreatDoorShS
namespace Go.Proofs.YtjfbeebdhmebpaaGreatDoor
set_option linter.unusedVariables false
set_option linter.unusedSimpArgs false
open Go Go.Sx
def ZhU:Ctr:=Zql 2
theorem Zl0:Za Tryz.prog 70 ZhU :=
 ZnK Tryz.laysSort 2 ⟨_,Tryz.func70,by kernel_rfl,by kernel_rfl⟩
def Ze9:Ctr:=Zk0 2
theorem Zjc:Za Tryz.prog 71 Ze9 :=
 Zkd Tryz.laysCompact 2 Tryz.zeroValue2 ⟨_,Tryz.func71,by kernel_rfl,by kernel_rfl⟩
end Go.Proofs.YtjfbeebdhmebpaaGreatDoor
