/-
  slices.Sort and slices.Compact of numbers: their contracts, by the kit's summaries.
-/
import Derived.Test.YtoijdogpgpbddaaGreatDoorSxS0
import Derived.Test.YtoijdogpgpbddaaGreatDoorSxSort
import Derived.Test.YtoijdogpgpbddaaGreatDoorShS
namespace Go.Proofs.YtoijdogpgpbddaaGreatDoor
set_option linter.unusedVariables false
set_option linter.unusedSimpArgs false
open Go Go.Sx
def Zpu:Ctr:=ZDN 2
theorem Zvy:Zc Tryz.prog 195 Zpu :=
 Zyp Tryz.laysSort 2 ⟨_,Tryz.func195,by kernel_rfl,by kernel_rfl⟩
def ZlJ:Ctr:=ZtP 2
theorem Zq8:Zc Tryz.prog 196 ZlJ :=
 Zsj Tryz.laysCompact 2 Tryz.zeroValue2 ⟨_,Tryz.func196,by kernel_rfl,by kernel_rfl⟩
end Go.Proofs.YtoijdogpgpbddaaGreatDoor
