/-
  What that world's variables read as. No condition.
-/
import Derived.Test.YtfcicokigdebpaaGreatDoorLW
import Derived.LaidMore
import Derived.Stop.Joined
namespace Go.Proofs.YtfcicokigdebpaaGreatDoor
namespace forkKnown
open Go
set_option linter.unusedVariables false
set_option maxRecDepth 100000
theorem door1 (os : Os) (args : Array Value) : (DataW.laidRun Tryz.prog ((laidWorld os).forCall (fun _ _ => 0) ⟨#[], args, []⟩).memory 8 ((Rows.forkKnownRow.laid.filter fun x => x.2.handleName?.isNone).map (·.1))).map (·.1) = some (Rows.forkKnownRow.laid.filter fun x => x.2.handleName?.isNone) := by kernel_rfl
theorem door3 (os : Os) (args : Array Value) : (Rows.forkKnownRow.laid.filter fun x => x.2.handleName?.isSome && x.2.funcsIn?.isNone).all (handleAtB Tryz.prog ((laidWorld os).forCall (fun _ _ => 0) ⟨#[], args, []⟩).memory) = true := by kernel_rfl
end forkKnown
end Go.Proofs.YtfcicokigdebpaaGreatDoor
