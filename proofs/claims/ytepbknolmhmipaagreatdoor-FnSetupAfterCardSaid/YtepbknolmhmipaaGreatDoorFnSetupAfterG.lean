/-
  FnSetupAfter: what the card says of the program, fact by fact.
-/
import Derived.Test.YtepbknolmhmipaaGreatDoorRows
import Derived.Test.YtepbknolmhmipaaGreatDoorChecked
import Derived.KernelRfl
import Derived.SevenTiedAt
namespace Go.Proofs.YtepbknolmhmipaaGreatDoor
open Go
set_option maxRecDepth 100000
theorem ZF5:false=Rows.fnSetupAfterRow.goesBy Tryz.prog:=by kernel_rfl
end Go.Proofs.YtepbknolmhmipaaGreatDoor
