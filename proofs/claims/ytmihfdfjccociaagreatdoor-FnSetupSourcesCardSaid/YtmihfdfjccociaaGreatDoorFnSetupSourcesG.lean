/-
  FnSetupSources: what the card says of the program, fact by fact.
-/
import Derived.Test.YtmihfdfjccociaaGreatDoorRows
import Derived.Test.YtmihfdfjccociaaGreatDoorChecked
import Derived.KernelRfl
import Derived.SevenTiedAt
namespace Go.Proofs.YtmihfdfjccociaaGreatDoor
open Go
set_option maxRecDepth 100000
theorem Zf4:false=Rows.fnSetupSourcesRow.goesBy Tryz.prog:=by kernel_rfl
end Go.Proofs.YtmihfdfjccociaaGreatDoor
