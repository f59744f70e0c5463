/-
  FnExactEditSession: what the card says of the program, fact by fact.
-/
import Derived.Test.YthkhedimjmkifaaGreatDoorRows
import Derived.Test.YthkhedimjmkifaaGreatDoorChecked
import Derived.KernelRfl
import Derived.SevenTiedAt
namespace Go.Proofs.YthkhedimjmkifaaGreatDoor
open Go
set_option maxRecDepth 100000
theorem ZK9:false=Tryz.prog.looks []:=by kernel_rfl
theorem ZLn:Rows.fnExactEditSessionRow.wfByText (OpenSpec.ofChange Rows.fnExactEditSessionSpec)=true:=by kernel_rfl
end Go.Proofs.YthkhedimjmkifaaGreatDoor
