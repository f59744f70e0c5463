/-
  FnExactIncrementalTiming: what the card says of the program, fact by fact.
-/
import Derived.Test.YtjepimjoknccmaaGreatDoorRows
import Derived.Test.YtjepimjoknccmaaGreatDoorChecked
import Derived.KernelRfl
import Derived.SevenTiedAt
namespace Go.Proofs.YtjepimjoknccmaaGreatDoor
open Go
set_option maxRecDepth 100000
theorem ZgK:false=Tryz.prog.looks []:=by kernel_rfl
theorem Zg4:Rows.fnExactIncrementalTimingRow.wfByText (OpenSpec.ofChange Rows.fnExactIncrementalTimingSpec)=true:=by kernel_rfl
end Go.Proofs.YtjepimjoknccmaaGreatDoor
