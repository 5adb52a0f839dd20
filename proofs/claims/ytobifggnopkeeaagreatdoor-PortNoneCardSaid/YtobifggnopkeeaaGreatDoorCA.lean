/-
  Closed facts that the card asks of the program, first part. No condition.
-/
import Derived.Test.YtobifggnopkeeaaGreatDoorRows
import Derived.SevenTiedAt
import Derived.KernelRfl
namespace Go.Proofs.YtobifggnopkeeaaGreatDoor
namespace portNone
open Go
set_option linter.unusedVariables false
set_option maxRecDepth 100000
theorem card1 : Rows.portNoneRow.wfByText (OpenSpec.ofChange Rows.portNoneSpec) = true := by kernel_rfl
theorem card2 : Tryz.pinned.checked.prog.mainIs = some ((true : Bool), ("f283194de193ca260d32dae549c31456d922ce85216ee69e24320eb70f5334be" : String).toList) := by kernel_rfl
theorem card3 : Tryz.prog.funcNamed Rows.portNoneRow.func = some 3 := by kernel_rfl
end portNone
end Go.Proofs.YtobifggnopkeeaaGreatDoor
