/-
  FnExactDirtyNodes: what the card says of the program, fact by fact.
-/
import Derived.Test.YtdabmnfkcnkkbaaGreatDoorRows
import Derived.Test.YtdabmnfkcnkkbaaGreatDoorChecked
import Derived.KernelRfl
import Derived.SevenTiedAt
namespace Go.Proofs.YtdabmnfkcnkkbaaGreatDoor
open Go
set_option maxRecDepth 100000
theorem Zg:false=Rows.fnExactDirtyNodesRow.goesBy Tryz.prog:=by kernel_rfl
theorem Zf:false=Tryz.prog.looks []:=by kernel_rfl
theorem Zh:Rows.fnExactDirtyNodesRow.wfByText (OpenSpec.ofChange Rows.fnExactDirtyNodesSpec)=true:=by kernel_rfl
end Go.Proofs.YtdabmnfkcnkkbaaGreatDoor
