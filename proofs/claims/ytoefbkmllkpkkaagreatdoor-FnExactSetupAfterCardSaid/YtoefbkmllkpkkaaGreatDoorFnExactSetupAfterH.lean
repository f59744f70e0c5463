/-
  FnExactSetupAfter: what the card says of the program, fact by fact.
-/
import Derived.Test.YtoefbkmllkpkkaaGreatDoorRows
import Derived.Test.YtoefbkmllkpkkaaGreatDoorChecked
import Derived.KernelRfl
import Derived.SevenTiedAt
namespace Go.Proofs.YtoefbkmllkpkkaaGreatDoor
open Go
set_option maxRecDepth 100000
theorem Zjm:false=Tryz.prog.looks []:=by kernel_rfl
theorem ZjJ:Rows.fnExactSetupAfterRow.wfByText (OpenSpec.ofChange Rows.fnExactSetupAfterSpec)=true:=by kernel_rfl
end Go.Proofs.YtoefbkmllkpkkaaGreatDoor
