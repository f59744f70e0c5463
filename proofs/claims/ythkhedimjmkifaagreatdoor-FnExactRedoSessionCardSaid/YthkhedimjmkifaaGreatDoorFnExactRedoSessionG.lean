/-
  FnExactRedoSession: what the card says of the program, fact by fact.
-/
import Derived.Test.YthkhedimjmkifaaGreatDoorRows
import Derived.Test.YthkhedimjmkifaaGreatDoorChecked
import Derived.KernelRfl
import Derived.SevenTiedAt
namespace Go.Proofs.YthkhedimjmkifaaGreatDoor
open Go
set_option maxRecDepth 100000
theorem ZLq:false=Rows.fnExactRedoSessionRow.goesBy Tryz.prog:=by kernel_rfl
end Go.Proofs.YthkhedimjmkifaaGreatDoor
