/-
  FnIncremental: what the card says of the program, fact by fact.
-/
import Derived.Test.YtcjminfjgckdlaaGreatDoorRows
import Derived.Test.YtcjminfjgckdlaaGreatDoorChecked
import Derived.KernelRfl
import Derived.SevenTiedAt
namespace Go.Proofs.YtcjminfjgckdlaaGreatDoor
open Go
set_option maxRecDepth 100000
theorem ZlF:false=Tryz.prog.looks []:=by kernel_rfl
theorem Zmj:Rows.fnIncrementalRow.wfByText (OpenSpec.ofChange Rows.fnIncrementalSpec)=true:=by kernel_rfl
end Go.Proofs.YtcjminfjgckdlaaGreatDoor
