/-
  One way of forkKnown's run. No condition.
-/
import Derived.Test.YtfcicokigdebpaaGreatDoorVR
namespace Go.Proofs.YtfcicokigdebpaaGreatDoor
namespace forkKnown
open Go Go.Eng
set_option maxRecDepth 100000
theorem w0_2_1 : (way (nat_lit 4) (nat_lit 0) (way (nat_lit 3) (nat_lit 2) (way (nat_lit 2) (nat_lit 1) Er.sure))) run = true := by kernel_rfl
end forkKnown
end Go.Proofs.YtfcicokigdebpaaGreatDoor
