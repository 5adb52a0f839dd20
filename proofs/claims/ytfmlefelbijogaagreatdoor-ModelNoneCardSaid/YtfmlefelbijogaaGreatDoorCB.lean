/-
  Closed facts that the card asks of the program, second part. No condition.
-/
import Derived.Test.YtfmlefelbijogaaGreatDoorRows
import Derived.SevenTiedAt
import Derived.KernelRfl
namespace Go.Proofs.YtfmlefelbijogaaGreatDoor
namespace modelNone
open Go
set_option linter.unusedVariables false
set_option maxRecDepth 100000
theorem sin44 : Tryz.prog.wantsStandIn 44 = false := by kernel_rfl
theorem card4 : true = Tryz.pinned.checked.prog.looks [] := by kernel_rfl
theorem card5 : false = Rows.modelNoneRow.goesBy Tryz.pinned.checked.prog := by kernel_rfl
end modelNone
end Go.Proofs.YtfmlefelbijogaaGreatDoor
