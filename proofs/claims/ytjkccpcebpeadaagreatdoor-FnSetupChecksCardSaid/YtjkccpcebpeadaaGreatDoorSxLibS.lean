/-
  slices.Sort and slices.Compact of numbers: their contracts, by the kit's summaries.
-/
import Derived.Test.YtjkccpcebpeadaaGreatDoorSxS0
import Derived.Test.YtjkccpcebpeadaaGreatDoorSxSort
import Derived.Test.YtjkccpcebpeadaaGreatDoorShS
namespace Go.Proofs.YtjkccpcebpeadaaGreatDoor
set_option linter.unusedVariables false
set_option linter.unusedSimpArgs false
open Go Go.Sx
def Znq:Ctr:=Zzr 2
theorem ZsJ:Za Tryz.prog 84 Znq :=
 Zvb Tryz.laysSort 2 ⟨_,Tryz.func84,by kernel_rfl,by kernel_rfl⟩
end Go.Proofs.YtjkccpcebpeadaaGreatDoor
