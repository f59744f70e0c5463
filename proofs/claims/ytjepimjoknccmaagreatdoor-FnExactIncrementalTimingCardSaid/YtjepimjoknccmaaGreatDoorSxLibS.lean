/-
  slices.Sort and slices.Compact of numbers: their contracts, by the kit's summaries.
-/
import Derived.Test.YtjepimjoknccmaaGreatDoorSxS0
import Derived.Test.YtjepimjoknccmaaGreatDoorSxSort
import Derived.Test.YtjepimjoknccmaaGreatDoorShS
namespace Go.Proofs.YtjepimjoknccmaaGreatDoor
set_option linter.unusedVariables false
set_option linter.unusedSimpArgs false
open Go Go.Sx
def Zrd:Ctr:=ZDu 2
theorem ZwV:Zc Tryz.prog 188 Zrd :=
 Zzk Tryz.laysSort 2 ⟨_,Tryz.func188,by kernel_rfl,by kernel_rfl⟩
def ZmM:Ctr:=Zvo 2
theorem ZsU:Zc Tryz.prog 189 ZmM :=
 Zt7 Tryz.laysCompact 2 Tryz.zeroValue2 ⟨_,Tryz.func189,by kernel_rfl,by kernel_rfl⟩
end Go.Proofs.YtjepimjoknccmaaGreatDoor
