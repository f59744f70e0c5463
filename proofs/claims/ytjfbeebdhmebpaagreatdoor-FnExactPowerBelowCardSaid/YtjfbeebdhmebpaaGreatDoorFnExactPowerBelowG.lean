/-
  FnExactPowerBelow: what the card says of the program, fact by fact.
-/
import Derived.Test.YtjfbeebdhmebpaaGreatDoorRows
import Derived.Test.YtjfbeebdhmebpaaGreatDoorChecked
import Derived.KernelRfl
import Derived.SevenTiedAt
namespace Go.Proofs.YtjfbeebdhmebpaaGreatDoor
open Go
set_option maxRecDepth 100000
theorem Zx6:false=Rows.fnExactPowerBelowRow.goesBy Tryz.prog:=by kernel_rfl
end Go.Proofs.YtjfbeebdhmebpaaGreatDoor
