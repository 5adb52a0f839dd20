/-
  Closed facts that the card asks of the program, first part. No condition.
-/
import Derived.Test.YtmahngadjllfpaaGreatDoorRows
import Derived.SevenTiedAt
import Derived.KernelRfl
namespace Go.Proofs.YtmahngadjllfpaaGreatDoor
namespace engineNone
open Go
set_option linter.unusedVariables false
set_option maxRecDepth 100000
theorem card1 : Rows.engineNoneRow.wfByText (OpenSpec.ofChange Rows.engineNoneSpec) = true := by kernel_rfl
theorem card2 : Tryz.pinned.checked.prog.mainIs = some ((true : Bool), ("ee9f9ae3efc341d02ae40c90ef192432cef60d3f96d538f406ab922be6582b42" : String).toList) := by kernel_rfl
theorem card3 : Tryz.prog.funcNamed Rows.engineNoneRow.func = some 3 := by kernel_rfl
end engineNone
end Go.Proofs.YtmahngadjllfpaaGreatDoor
