/-
  FnPower: what the card says of the program, fact by fact.
-/
import Derived.Test.YtioiomifapgimaaGreatDoorRows
import Derived.Test.YtioiomifapgimaaGreatDoorChecked
import Derived.KernelRfl
import Derived.SevenTiedAt
namespace Go.Proofs.YtioiomifapgimaaGreatDoor
open Go
set_option maxRecDepth 100000
theorem ZFg:false=Tryz.prog.looks []:=by kernel_rfl
theorem ZFq:Rows.fnPowerRow.wfByText (OpenSpec.ofChange Rows.fnPowerSpec)=true:=by kernel_rfl
end Go.Proofs.YtioiomifapgimaaGreatDoor
