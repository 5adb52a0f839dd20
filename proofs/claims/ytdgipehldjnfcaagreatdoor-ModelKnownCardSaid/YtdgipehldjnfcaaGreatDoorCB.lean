/-
  Closed facts that the card asks of the program, second part. No condition.
-/
import Derived.Test.YtdgipehldjnfcaaGreatDoorRows
import Derived.SevenTiedAt
import Derived.KernelRfl
namespace Go.Proofs.YtdgipehldjnfcaaGreatDoor
namespace modelKnown
open Go
set_option linter.unusedVariables false
set_option maxRecDepth 100000
theorem card4 : true = Tryz.pinned.checked.prog.looks [] := by kernel_rfl
theorem card5 : false = Rows.modelKnownRow.goesBy Tryz.pinned.checked.prog := by kernel_rfl
end modelKnown
end Go.Proofs.YtdgipehldjnfcaaGreatDoor
