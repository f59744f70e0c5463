/-
  FnSetupChecks: what the card says of the program, fact by fact.
-/
import Derived.Test.YtjkccpcebpeadaaGreatDoorRows
import Derived.Test.YtjkccpcebpeadaaGreatDoorChecked
import Derived.KernelRfl
import Derived.SevenTiedAt
namespace Go.Proofs.YtjkccpcebpeadaaGreatDoor
open Go
set_option maxRecDepth 100000
theorem ZJ2:false=Tryz.prog.looks []:=by kernel_rfl
theorem ZJ5:Rows.fnSetupChecksRow.wfByText (OpenSpec.ofChange Rows.fnSetupChecksSpec)=true:=by kernel_rfl
end Go.Proofs.YtjkccpcebpeadaaGreatDoor
