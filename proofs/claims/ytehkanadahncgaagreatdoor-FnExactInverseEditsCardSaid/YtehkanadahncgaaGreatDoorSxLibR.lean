/-
  slices.Reverse of edits: its contract, by the kit's summary.
-/
import Derived.Test.YtehkanadahncgaaGreatDoorSxS0
import Derived.Test.YtehkanadahncgaaGreatDoorSxRev
import Derived.Test.YtehkanadahncgaaGreatDoorShR
namespace Go.Proofs.YtehkanadahncgaaGreatDoor
set_option linter.unusedVariables false
set_option linter.unusedSimpArgs false
open Go Go.Sx
def Znp:Ctr:=Zwl 66 Zi2
theorem Zrz:Zc Tryz.prog 91 Znp :=
 Zs8 Tryz.laysRev 66 Zi2 Tryz.isAgg66 Tryz.sizeOf66 ⟨_,Tryz.func91,by kernel_rfl,by kernel_rfl⟩
end Go.Proofs.YtehkanadahncgaaGreatDoor
