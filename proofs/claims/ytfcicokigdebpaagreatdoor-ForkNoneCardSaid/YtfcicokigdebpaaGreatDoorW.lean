/-
  The law's examples (awake): a closed call, that answers true by a run; summed up. No condition.
-/
import Derived.Test.YtfcicokigdebpaaGreatDoorH
namespace Go.Proofs.YtfcicokigdebpaaGreatDoor.Eng
open Go Go.Eng
set_option linter.unusedVariables false
set_option maxRecDepth 100000

theorem awake_run : (enter E3 (ctx E3 (nat_lit 5000)) 11 [] ⟨0, .nil⟩).gives (.bool true) = true := by kernel_rfl
noncomputable def E2 : Env := ⟨tab.get, fun n => Bool.rec (motive := fun _ => Option Summ) (E3.sum n) (some trueSum) (Nat.beq n 11), cMethod Tryz.prog, cNilOk Tryz.prog⟩
theorem E2_ok (B : Nat) : EnvOK Tryz.prog B E2 := by
  refine ⟨fun f k h => Tr.allP_get tab_ok f k h, rfl, rfl, fun f s h => ?_⟩
  replace h : (Bool.rec (motive := fun _ => Option Summ) (E3.sum f) (some trueSum) (Nat.beq f 11)) = some s := h
  cases hb : Nat.beq f 11 with
  | false => rw [hb] at h; exact (E3_ok B).sum f s h
  | true =>
    rw [hb] at h
    cases h
    rw [beq_iff] at hb
    subst hb
    exact fun ι H w args args' v H' s hr hv => closed_sound mixed (E3_ok B) (nat_lit 5000) 11 awake_run s hr hv
end Go.Proofs.YtfcicokigdebpaaGreatDoor.Eng
