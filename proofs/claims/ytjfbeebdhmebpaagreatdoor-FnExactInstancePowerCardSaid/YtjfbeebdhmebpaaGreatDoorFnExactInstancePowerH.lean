/-
  FnExactInstancePower: what the card says of the program, fact by fact.
-/
import Derived.Test.YtjfbeebdhmebpaaGreatDoorRows
import Derived.Test.YtjfbeebdhmebpaaGreatDoorChecked
import Derived.KernelRfl
import Derived.SevenTiedAt
namespace Go.Proofs.YtjfbeebdhmebpaaGreatDoor
open Go
set_option maxRecDepth 100000
theorem Zw6:false=Tryz.prog.looks []:=by kernel_rfl
theorem Zxa:Rows.fnExactInstancePowerRow.wfByText (OpenSpec.ofChange Rows.fnExactInstancePowerSpec)=true:=by kernel_rfl
end Go.Proofs.YtjfbeebdhmebpaaGreatDoor
