/-
  FnPlacesAfter: what the card says of the program, fact by fact.
-/
import Derived.Test.YtnnbgbgapogckaaGreatDoorRows
import Derived.Test.YtnnbgbgapogckaaGreatDoorChecked
import Derived.KernelRfl
import Derived.SevenTiedAt
namespace Go.Proofs.YtnnbgbgapogckaaGreatDoor
open Go
set_option maxRecDepth 100000
theorem ZLp:false=Rows.fnPlacesAfterRow.goesBy Tryz.prog:=by kernel_rfl
end Go.Proofs.YtnnbgbgapogckaaGreatDoor
