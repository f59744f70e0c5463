/-
  FnExactIncrementalTiming: what the card says of the program, fact by fact.
-/
import Derived.Test.YtjepimjoknccmaaGreatDoorRows
import Derived.Test.YtjepimjoknccmaaGreatDoorChecked
import Derived.KernelRfl
import Derived.SevenTiedAt
namespace Go.Proofs.YtjepimjoknccmaaGreatDoor
open Go
set_option maxRecDepth 100000
theorem Zg3:false=Rows.fnExactIncrementalTimingRow.goesBy Tryz.prog:=by kernel_rfl
end Go.Proofs.YtjepimjoknccmaaGreatDoor
