/-
  FnExactSetupSources: what the card says of the program, fact by fact.
-/
import Derived.Test.YtpiemlnhjobopaaGreatDoorRows
import Derived.Test.YtpiemlnhjobopaaGreatDoorChecked
import Derived.KernelRfl
import Derived.SevenTiedAt
namespace Go.Proofs.YtpiemlnhjobopaaGreatDoor
open Go
set_option maxRecDepth 100000
theorem Zfl:false=Rows.fnExactSetupSourcesRow.goesBy Tryz.prog:=by kernel_rfl
end Go.Proofs.YtpiemlnhjobopaaGreatDoor
