/-
  slices.Sort and slices.Compact of numbers: their contracts, by the kit's summaries.
-/
import Derived.Test.YtcjminfjgckdlaaGreatDoorSxS0
import Derived.Test.YtcjminfjgckdlaaGreatDoorSxSort
import Derived.Test.YtcjminfjgckdlaaGreatDoorShS
namespace Go.Proofs.YtcjminfjgckdlaaGreatDoor
set_option linter.unusedVariables false
set_option linter.unusedSimpArgs false
open Go Go.Sx
def Zpz:Ctr:=ZDe 2
theorem Zve:Zc Tryz.prog 194 Zpz :=
 ZxY Tryz.laysSort 2 ⟨_,Tryz.func194,by kernel_rfl,by kernel_rfl⟩
def Zld:Ctr:=ZtA 2
theorem Zq6:Zc Tryz.prog 195 Zld :=
 Zsf Tryz.laysCompact 2 Tryz.zeroValue2 ⟨_,Tryz.func195,by kernel_rfl,by kernel_rfl⟩
end Go.Proofs.YtcjminfjgckdlaaGreatDoor
