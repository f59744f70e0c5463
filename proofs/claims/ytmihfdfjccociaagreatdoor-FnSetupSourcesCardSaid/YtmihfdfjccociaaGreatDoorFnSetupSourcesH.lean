/-
  FnSetupSources: what the card says of the program, fact by fact.
-/
import Derived.Test.YtmihfdfjccociaaGreatDoorRows
import Derived.Test.YtmihfdfjccociaaGreatDoorChecked
import Derived.KernelRfl
import Derived.SevenTiedAt
namespace Go.Proofs.YtmihfdfjccociaaGreatDoor
open Go
set_option maxRecDepth 100000
theorem ZfB:false=Tryz.prog.looks []:=by kernel_rfl
theorem Zf5:Rows.fnSetupSourcesRow.wfByText (OpenSpec.ofChange Rows.fnSetupSourcesSpec)=true:=by kernel_rfl
end Go.Proofs.YtmihfdfjccociaaGreatDoor
