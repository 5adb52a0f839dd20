/-
  Closed facts that the card asks of the program, first part. No condition.
-/
import Derived.Test.YtdgipehldjnfcaaGreatDoorRows
import Derived.SevenTiedAt
import Derived.KernelRfl
namespace Go.Proofs.YtdgipehldjnfcaaGreatDoor
namespace modelKnown
open Go
set_option linter.unusedVariables false
set_option maxRecDepth 100000
theorem card1 : Rows.modelKnownRow.wfByText (OpenSpec.ofChange Rows.modelKnownSpec) = true := by kernel_rfl
theorem card2 : Tryz.pinned.checked.prog.mainIs = some ((true : Bool), ("58e0e423668bb6907b479b769659ee323c434babcfd0df4b306ba473d1dea836" : String).toList) := by kernel_rfl
theorem card3 : Tryz.prog.funcNamed Rows.modelKnownRow.func = some 3 := by kernel_rfl
end modelKnown
end Go.Proofs.YtdgipehldjnfcaaGreatDoor
