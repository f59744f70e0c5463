/-
  FnExactTotalPower: what the card says of the program, fact by fact.
-/
import Derived.Test.YtjfbeebdhmebpaaGreatDoorRows
import Derived.Test.YtjfbeebdhmebpaaGreatDoorChecked
import Derived.KernelRfl
import Derived.SevenTiedAt
namespace Go.Proofs.YtjfbeebdhmebpaaGreatDoor
open Go
set_option maxRecDepth 100000
theorem ZxX:false=Tryz.prog.looks []:=by kernel_rfl
theorem Zx9:Rows.fnExactTotalPowerRow.wfByText (OpenSpec.ofChange Rows.fnExactTotalPowerSpec)=true:=by kernel_rfl
end Go.Proofs.YtjfbeebdhmebpaaGreatDoor
