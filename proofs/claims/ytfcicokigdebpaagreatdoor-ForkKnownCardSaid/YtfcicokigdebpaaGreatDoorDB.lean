/-
  Where that world's variables lie. No condition.
-/
import Derived.Test.YtfcicokigdebpaaGreatDoorLW
import Derived.LaidMore
import Derived.Stop.Joined
namespace Go.Proofs.YtfcicokigdebpaaGreatDoor
namespace forkKnown
open Go
set_option linter.unusedVariables false
set_option maxRecDepth 100000
theorem door2a (os : Os) (args : Array Value) : (DataW.laidRun Tryz.prog ((laidWorld os).forCall (fun _ _ => 0) ⟨#[], args, []⟩).memory 8 ((Rows.forkKnownRow.laid.filter fun x => x.2.handleName?.isNone).map (·.1))).map (fun x => decide x.2.Nodup) = some true := by kernel_rfl
end forkKnown
end Go.Proofs.YtfcicokigdebpaaGreatDoor
