/-
  What the digest of each byte string is that the law's call digests: a run of the program's own digest. No condition.
-/
import Derived.Test.YtfmlefelbijogaaGreatDoorT
namespace Go.Proofs.YtfmlefelbijogaaGreatDoor.Eng
open Go Go.Eng
set_option linter.unusedVariables false
set_option maxRecDepth 100000
noncomputable def E : Env := E0
theorem E_ok (B : Nat) : EnvOK Tryz.prog B E := E0_ok B
noncomputable def E3 : Env := (E.add 289 idxSum)
theorem E3_ok (B : Nat) : EnvOK Tryz.prog B E3 := ((E_ok B).add 289 idxSum fun ι H w args args' v H' s hr hv => idx_sound Tryz.func289 (by kernel_rfl) (by kernel_rfl) (by kernel_rfl) (by kernel_rfl) s hr hv)
end Go.Proofs.YtfmlefelbijogaaGreatDoor.Eng
