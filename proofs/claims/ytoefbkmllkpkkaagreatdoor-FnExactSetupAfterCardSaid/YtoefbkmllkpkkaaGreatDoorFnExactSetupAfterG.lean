/-
  FnExactSetupAfter: what the card says of the program, fact by fact.
-/
import Derived.Test.YtoefbkmllkpkkaaGreatDoorRows
import Derived.Test.YtoefbkmllkpkkaaGreatDoorChecked
import Derived.KernelRfl
import Derived.SevenTiedAt
namespace Go.Proofs.YtoefbkmllkpkkaaGreatDoor
open Go
set_option maxRecDepth 100000
theorem ZjD:false=Rows.fnExactSetupAfterRow.goesBy Tryz.prog:=by kernel_rfl
end Go.Proofs.YtoefbkmllkpkkaaGreatDoor
