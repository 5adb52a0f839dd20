/-
  Closed facts that the card asks of the program, first part. No condition.
-/
import Derived.Test.YtfcicokigdebpaaGreatDoorRows
import Derived.SevenTiedAt
import Derived.KernelRfl
namespace Go.Proofs.YtfcicokigdebpaaGreatDoor
namespace forkKnown
open Go
set_option linter.unusedVariables false
set_option maxRecDepth 100000
theorem card1 : Rows.forkKnownRow.wfByText (OpenSpec.ofChange Rows.forkKnownSpec) = true := by kernel_rfl
theorem card2 : Tryz.pinned.checked.prog.mainIs = some ((true : Bool), ("4a9ac2f83b59bf4f7fea837701ff4836544302dc3fc8cc60ae34476ae704e974" : String).toList) := by kernel_rfl
theorem card3 : Tryz.prog.funcNamed Rows.forkKnownRow.func = some 4 := by kernel_rfl
end forkKnown
end Go.Proofs.YtfcicokigdebpaaGreatDoor
