/-
  FnSetupTiming: what the card says of the program, fact by fact.
-/
import Derived.Test.YtjkccpcebpeadaaGreatDoorRows
import Derived.Test.YtjkccpcebpeadaaGreatDoorChecked
import Derived.KernelRfl
import Derived.SevenTiedAt
namespace Go.Proofs.YtjkccpcebpeadaaGreatDoor
open Go
set_option maxRecDepth 100000
theorem ZjZ:false=Tryz.prog.looks []:=by kernel_rfl
theorem ZkH:Rows.fnSetupTimingRow.wfByText (OpenSpec.ofChange Rows.fnSetupTimingSpec)=true:=by kernel_rfl
end Go.Proofs.YtjkccpcebpeadaaGreatDoor
