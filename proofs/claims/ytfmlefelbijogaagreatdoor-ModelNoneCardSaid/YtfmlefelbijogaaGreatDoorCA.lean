/-
  Closed facts that the card asks of the program, first part. No condition.
-/
import Derived.Test.YtfmlefelbijogaaGreatDoorRows
import Derived.SevenTiedAt
import Derived.KernelRfl
namespace Go.Proofs.YtfmlefelbijogaaGreatDoor
namespace modelNone
open Go
set_option linter.unusedVariables false
set_option maxRecDepth 100000
theorem card1 : Rows.modelNoneRow.wfByText (OpenSpec.ofChange Rows.modelNoneSpec) = true := by kernel_rfl
theorem card2 : Tryz.pinned.checked.prog.mainIs = some ((true : Bool), ("b33b1e22f73e0a55d4a237ae9b55fba00b19cb5a008fc7c8e34017b4a0233cef" : String).toList) := by kernel_rfl
theorem card3 : Tryz.prog.funcNamed Rows.modelNoneRow.func = some 4 := by kernel_rfl
end modelNone
end Go.Proofs.YtfmlefelbijogaaGreatDoor
