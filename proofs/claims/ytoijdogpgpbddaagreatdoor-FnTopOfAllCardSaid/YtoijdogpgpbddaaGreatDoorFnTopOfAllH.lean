/-
  FnTopOfAll: what the card says of the program, fact by fact.
-/
import Derived.Test.YtoijdogpgpbddaaGreatDoorRows
import Derived.Test.YtoijdogpgpbddaaGreatDoorChecked
import Derived.KernelRfl
import Derived.SevenTiedAt
namespace Go.Proofs.YtoijdogpgpbddaaGreatDoor
open Go
set_option maxRecDepth 100000
theorem ZO3:false=Tryz.prog.looks []:=by kernel_rfl
theorem ZO5:Rows.fnTopOfAllRow.wfByText (OpenSpec.ofChange Rows.fnTopOfAllSpec)=true:=by kernel_rfl
end Go.Proofs.YtoijdogpgpbddaaGreatDoor
