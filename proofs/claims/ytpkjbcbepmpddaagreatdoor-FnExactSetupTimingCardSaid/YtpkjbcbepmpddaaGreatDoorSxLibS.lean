/-
  slices.Sort and slices.Compact of numbers: their contracts, by the kit's summaries.
-/
import Derived.Test.YtpkjbcbepmpddaaGreatDoorSxS0
import Derived.Test.YtpkjbcbepmpddaaGreatDoorSxSort
import Derived.Test.YtpkjbcbepmpddaaGreatDoorShS
namespace Go.Proofs.YtpkjbcbepmpddaaGreatDoor
set_option linter.unusedVariables false
set_option linter.unusedSimpArgs false
open Go Go.Sx
def ZqP:Ctr:=ZC6 2
theorem ZwK:Za Tryz.prog 155 ZqP :=
 Zzc Tryz.laysSort 2 ⟨_,Tryz.func155,by kernel_rfl,by kernel_rfl⟩
end Go.Proofs.YtpkjbcbepmpddaaGreatDoor
