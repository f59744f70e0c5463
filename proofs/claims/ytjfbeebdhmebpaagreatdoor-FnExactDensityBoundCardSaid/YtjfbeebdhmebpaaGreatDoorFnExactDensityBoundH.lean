/-
  FnExactDensityBound: what the card says of the program, fact by fact.
-/
import Derived.Test.YtjfbeebdhmebpaaGreatDoorRows
import Derived.Test.YtjfbeebdhmebpaaGreatDoorChecked
import Derived.KernelRfl
import Derived.SevenTiedAt
namespace Go.Proofs.YtjfbeebdhmebpaaGreatDoor
open Go
set_option maxRecDepth 100000
theorem Zcx:false=Tryz.prog.looks []:=by kernel_rfl
theorem ZcE:Rows.fnExactDensityBoundRow.wfByText (OpenSpec.ofChange Rows.fnExactDensityBoundSpec)=true:=by kernel_rfl
end Go.Proofs.YtjfbeebdhmebpaaGreatDoor
