/-
  FnTopOfAll: what the card says of the program, fact by fact.
-/
import Derived.Test.YtoijdogpgpbddaaGreatDoorRows
import Derived.Test.YtoijdogpgpbddaaGreatDoorChecked
import Derived.KernelRfl
import Derived.SevenTiedAt
namespace Go.Proofs.YtoijdogpgpbddaaGreatDoor
open Go
set_option maxRecDepth 100000
theorem ZO4:false=Rows.fnTopOfAllRow.goesBy Tryz.prog:=by kernel_rfl
end Go.Proofs.YtoijdogpgpbddaaGreatDoor
