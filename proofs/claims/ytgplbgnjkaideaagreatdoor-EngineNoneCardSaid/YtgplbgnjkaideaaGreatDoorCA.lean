/-
  Closed facts that the card asks of the program, first part. No condition.
-/
import Derived.Test.YtgplbgnjkaideaaGreatDoorRows
import Derived.SevenTiedAt
import Derived.KernelRfl
namespace Go.Proofs.YtgplbgnjkaideaaGreatDoor
namespace engineNone
open Go
set_option linter.unusedVariables false
set_option maxRecDepth 100000
theorem card1 : Rows.engineNoneRow.wfByText (OpenSpec.ofChange Rows.engineNoneSpec) = true := by kernel_rfl
theorem card2 : Tryz.pinned.checked.prog.mainIs = some ((true : Bool), ("feb173667a6e4e5c0928a2f3179fe22363024c1eb7af401feb644a62eb5de146" : String).toList) := by kernel_rfl
theorem card3 : Tryz.prog.funcNamed Rows.engineNoneRow.func = some 4 := by kernel_rfl
end engineNone
end Go.Proofs.YtgplbgnjkaideaaGreatDoor
