/-
  slices.Reverse of edits: its contract, by the kit's summary.
-/
import Derived.Test.YtfndhpjedmopdaaGreatDoorSxS0
import Derived.Test.YtfndhpjedmopdaaGreatDoorSxRev
import Derived.Test.YtfndhpjedmopdaaGreatDoorShR
namespace Go.Proofs.YtfndhpjedmopdaaGreatDoor
set_option linter.unusedVariables false
set_option linter.unusedSimpArgs false
open Go Go.Sx
def Zob:Ctr:=ZwU 74 Zld
theorem Zsh:Zc Tryz.prog 96 Zob :=
 ZsA Tryz.laysRev 74 Zld Tryz.isAgg74 Tryz.sizeOf74 ⟨_,Tryz.func96,by kernel_rfl,by kernel_rfl⟩
end Go.Proofs.YtfndhpjedmopdaaGreatDoor
