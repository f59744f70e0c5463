/-
  FnExactWrongNodes: what the card says of the program, fact by fact.
-/
import Derived.Test.YtclfgjepbamnlaaGreatDoorRows
import Derived.Test.YtclfgjepbamnlaaGreatDoorChecked
import Derived.KernelRfl
import Derived.SevenTiedAt
namespace Go.Proofs.YtclfgjepbamnlaaGreatDoor
open Go
set_option maxRecDepth 100000
theorem Zga:false=Tryz.prog.looks []:=by kernel_rfl
theorem ZgX:Rows.fnExactWrongNodesRow.wfByText (OpenSpec.ofChange Rows.fnExactWrongNodesSpec)=true:=by kernel_rfl
end Go.Proofs.YtclfgjepbamnlaaGreatDoor
