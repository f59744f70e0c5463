/-
  slices.Sort and slices.Compact of numbers: their contracts, by the kit's summaries.
-/
import Derived.Test.YtioiomifapgimaaGreatDoorSxS0
import Derived.Test.YtioiomifapgimaaGreatDoorSxSort
import Derived.Test.YtioiomifapgimaaGreatDoorShS
namespace Go.Proofs.YtioiomifapgimaaGreatDoor
set_option linter.unusedVariables false
set_option linter.unusedSimpArgs false
open Go Go.Sx
def Zlx:Ctr:=Zwi 2
theorem Zqr:Za Tryz.prog 111 Zlx :=
 ZsJ Tryz.laysSort 2 ⟨_,Tryz.func111,by kernel_rfl,by kernel_rfl⟩
def ZhY:Ctr:=Zo9 2
theorem Zna:Za Tryz.prog 112 ZhY :=
 Zoc Tryz.laysCompact 2 Tryz.zeroValue2 ⟨_,Tryz.func112,by kernel_rfl,by kernel_rfl⟩
end Go.Proofs.YtioiomifapgimaaGreatDoor
