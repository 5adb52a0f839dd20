/-
  Closed facts that the card asks of the program, second part. No condition.
-/
import Derived.Test.YtobifggnopkeeaaGreatDoorRows
import Derived.SevenTiedAt
import Derived.KernelRfl
namespace Go.Proofs.YtobifggnopkeeaaGreatDoor
namespace portNone
open Go
set_option linter.unusedVariables false
set_option maxRecDepth 100000
theorem sin22 : Tryz.prog.wantsStandIn 22 = false := by kernel_rfl
theorem sin23 : Tryz.prog.wantsStandIn 23 = false := by kernel_rfl
theorem sin3 : Tryz.prog.wantsStandIn 3 = false := by kernel_rfl
theorem card4 : true = Tryz.pinned.checked.prog.looks [] := by kernel_rfl
theorem card5 : false = Rows.portNoneRow.goesBy Tryz.pinned.checked.prog := by kernel_rfl
end portNone
end Go.Proofs.YtobifggnopkeeaaGreatDoor
