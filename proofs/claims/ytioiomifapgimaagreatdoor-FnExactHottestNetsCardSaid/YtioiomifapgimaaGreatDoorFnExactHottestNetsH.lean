/-
  FnExactHottestNets: what the card says of the program, fact by fact.
-/
import Derived.Test.YtioiomifapgimaaGreatDoorRows
import Derived.Test.YtioiomifapgimaaGreatDoorChecked
import Derived.KernelRfl
import Derived.SevenTiedAt
namespace Go.Proofs.YtioiomifapgimaaGreatDoor
open Go
set_option maxRecDepth 100000
theorem Zfb:false=Tryz.prog.looks []:=by kernel_rfl
theorem Zfu:Rows.fnExactHottestNetsRow.wfByText (OpenSpec.ofChange Rows.fnExactHottestNetsSpec)=true:=by kernel_rfl
end Go.Proofs.YtioiomifapgimaaGreatDoor
