/-
  FnIncremental: what the card says of the program, fact by fact.
-/
import Derived.Test.YtcjminfjgckdlaaGreatDoorRows
import Derived.Test.YtcjminfjgckdlaaGreatDoorChecked
import Derived.KernelRfl
import Derived.SevenTiedAt
namespace Go.Proofs.YtcjminfjgckdlaaGreatDoor
open Go
set_option maxRecDepth 100000
theorem Zmi:false=Rows.fnIncrementalRow.goesBy Tryz.prog:=by kernel_rfl
end Go.Proofs.YtcjminfjgckdlaaGreatDoor
