/-
  Closed facts that the card asks of the program, second part. No condition.
-/
import Derived.Test.YtgplbgnjkaideaaGreatDoorRows
import Derived.SevenTiedAt
import Derived.KernelRfl
namespace Go.Proofs.YtgplbgnjkaideaaGreatDoor
namespace engineNone
open Go
set_option linter.unusedVariables false
set_option maxRecDepth 100000
theorem sin3 : Tryz.prog.wantsStandIn 3 = false := by kernel_rfl
theorem sin9 : Tryz.prog.wantsStandIn 9 = false := by kernel_rfl
theorem card4 : true = Tryz.pinned.checked.prog.looks [] := by kernel_rfl
theorem card5 : false = Rows.engineNoneRow.goesBy Tryz.pinned.checked.prog := by kernel_rfl
end engineNone
end Go.Proofs.YtgplbgnjkaideaaGreatDoor
