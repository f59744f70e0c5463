/-
  slices.Reverse of edits: its contract, by the kit's summary.
-/
import Derived.Test.YtnnbgbgapogckaaGreatDoorSxS0
import Derived.Test.YtnnbgbgapogckaaGreatDoorSxRev
import Derived.Test.YtnnbgbgapogckaaGreatDoorShR
namespace Go.Proofs.YtnnbgbgapogckaaGreatDoor
set_option linter.unusedVariables false
set_option linter.unusedSimpArgs false
open Go Go.Sx
def ZDo:Ctr:=ZDL 62 ZoH
theorem ZDF:Zd Tryz.prog 165 ZDo :=
 ZDH Tryz.laysRev 62 ZoH Tryz.isAgg62 Tryz.sizeOf62 ⟨_,Tryz.func165,by kernel_rfl,by kernel_rfl⟩
end Go.Proofs.YtnnbgbgapogckaaGreatDoor
