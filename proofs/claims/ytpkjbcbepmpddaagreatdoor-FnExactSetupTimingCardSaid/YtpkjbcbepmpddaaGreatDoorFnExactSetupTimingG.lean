/-
  FnExactSetupTiming: what the card says of the program, fact by fact.
-/
import Derived.Test.YtpkjbcbepmpddaaGreatDoorRows
import Derived.Test.YtpkjbcbepmpddaaGreatDoorChecked
import Derived.KernelRfl
import Derived.SevenTiedAt
namespace Go.Proofs.YtpkjbcbepmpddaaGreatDoor
open Go
set_option maxRecDepth 100000
theorem Zjw:false=Rows.fnExactSetupTimingRow.goesBy Tryz.prog:=by kernel_rfl
end Go.Proofs.YtpkjbcbepmpddaaGreatDoor
