/-
  FnSetupAfter: what the card says of the program, fact by fact.
-/
import Derived.Test.YtepbknolmhmipaaGreatDoorRows
import Derived.Test.YtepbknolmhmipaaGreatDoorChecked
import Derived.KernelRfl
import Derived.SevenTiedAt
namespace Go.Proofs.YtepbknolmhmipaaGreatDoor
open Go
set_option maxRecDepth 100000
theorem ZFP:false=Tryz.prog.looks []:=by kernel_rfl
theorem ZF6:Rows.fnSetupAfterRow.wfByText (OpenSpec.ofChange Rows.fnSetupAfterSpec)=true:=by kernel_rfl
end Go.Proofs.YtepbknolmhmipaaGreatDoor
