/-
  FnUpdate: what the card says of the program, fact by fact.
-/
import Derived.Test.YtgjjlgodlhhdoaaGreatDoorRows
import Derived.Test.YtgjjlgodlhhdoaaGreatDoorChecked
import Derived.KernelRfl
import Derived.SevenTiedAt
namespace Go.Proofs.YtgjjlgodlhhdoaaGreatDoor
open Go
set_option maxRecDepth 100000
theorem ZCG:false=Rows.fnUpdateRow.goesBy Tryz.prog:=by kernel_rfl
end Go.Proofs.YtgjjlgodlhhdoaaGreatDoor
