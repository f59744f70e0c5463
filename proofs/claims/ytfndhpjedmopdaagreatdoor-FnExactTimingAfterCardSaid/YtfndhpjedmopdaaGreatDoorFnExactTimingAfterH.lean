/-
  FnExactTimingAfter: what the card says of the program, fact by fact.
-/
import Derived.Test.YtfndhpjedmopdaaGreatDoorRows
import Derived.Test.YtfndhpjedmopdaaGreatDoorChecked
import Derived.KernelRfl
import Derived.SevenTiedAt
namespace Go.Proofs.YtfndhpjedmopdaaGreatDoor
open Go
set_option maxRecDepth 100000
theorem clooks : false = Tryz.prog.looks [] := by kernel_rfl
theorem ctext : Rows.fnExactTimingAfterRow.wfByText (OpenSpec.ofChange Rows.fnExactTimingAfterSpec) = true := by kernel_rfl
end Go.Proofs.YtfndhpjedmopdaaGreatDoor
