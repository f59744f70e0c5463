/-
  FnExactUpdateTiming: what the card says of the program, fact by fact.
-/
import Derived.Test.YtclfgjepbamnlaaGreatDoorRows
import Derived.Test.YtclfgjepbamnlaaGreatDoorChecked
import Derived.KernelRfl
import Derived.SevenTiedAt
namespace Go.Proofs.YtclfgjepbamnlaaGreatDoor
open Go
set_option maxRecDepth 100000
theorem ZEJ:false=Rows.fnExactUpdateTimingRow.goesBy Tryz.prog:=by kernel_rfl
end Go.Proofs.YtclfgjepbamnlaaGreatDoor
