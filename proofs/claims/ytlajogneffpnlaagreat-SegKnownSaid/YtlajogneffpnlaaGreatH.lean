/-
  What the digest of each byte string is that the law's call digests: a run of the program's own digest. No condition.
-/
import Derived.Test.YtlajogneffpnlaaGreatT
namespace Go.Proofs.YtlajogneffpnlaaGreat.Eng
open Go Go.Eng
set_option linter.unusedVariables false
set_option maxRecDepth 100000
def bt (n : Nat) : Value := .int .u8 (.ofNat n)
noncomputable def row0 : List Value × Value := ([bt 97, bt 98], (.agg ⟨[bt 251, bt 142, bt 32, bt 252, bt 46, bt 76, bt 63, bt 36, bt 140, bt 96, bt 195, bt 155, bt 214, bt 82, bt 243, bt 193, bt 52, bt 114, bt 152, bt 187, bt 151, bt 123, bt 139, bt 77, bt 89, bt 3, bt 184, bt 80, bt 85, bt 98, bt 6, bt 3]⟩))
theorem row0_ok : tabRow E0 (nat_lit 5000) 20 row0 = true := by kernel_rfl
noncomputable def row1 : List Value × Value := ([bt 0, bt 1, bt 2, bt 97, bt 98], (.agg ⟨[bt 69, bt 35, bt 31, bt 85, bt 197, bt 15, bt 66, bt 105, bt 224, bt 1, bt 85, bt 24, bt 102, bt 136, bt 225, bt 71, bt 168, bt 95, bt 56, bt 118, bt 55, bt 198, bt 73, bt 110, bt 76, bt 15, bt 22, bt 104, bt 134, bt 165, bt 193, bt 10]⟩))
theorem row1_ok : tabRow E0 (nat_lit 5000) 20 row1 = true := by kernel_rfl
noncomputable def row2 : List Value × Value := ([bt 0, bt 0], (.agg ⟨[bt 150, bt 162, bt 150, bt 210, bt 36, bt 242, bt 133, bt 198, bt 123, bt 238, bt 147, bt 195, bt 15, bt 138, bt 48, bt 145, bt 87, bt 240, bt 218, bt 163, bt 93, bt 197, bt 184, bt 126, bt 65, bt 11, bt 120, bt 99, bt 10, bt 9, bt 207, bt 199]⟩))
theorem row2_ok : tabRow E0 (nat_lit 5000) 20 row2 = true := by kernel_rfl
noncomputable def hashTab : List (List Value × Value) := [row0, row1, row2]
theorem hashTab_ok : ∀ e ∈ hashTab, tabRow E0 (nat_lit 5000) 20 e = true := by
  intro e he
  unfold hashTab at he
  rcases List.mem_cons.1 he with rfl | he
  · exact row0_ok
  rcases List.mem_cons.1 he with rfl | he
  · exact row1_ok
  rcases List.mem_cons.1 he with rfl | he
  · exact row2_ok
  cases he
noncomputable def E : Env := ⟨tab.get, fun n => Bool.rec (motive := fun _ => Option Summ) none (some (tabSum hashTab)) (Nat.beq n 20), cMethod Tryz.prog, cNilOk Tryz.prog⟩
theorem E_ok (B : Nat) : EnvOK Tryz.prog B E := by
  refine ⟨fun f k h => Tr.allP_get tab_ok f k h, rfl, rfl, fun f s h => ?_⟩
  replace h : (Bool.rec (motive := fun _ => Option Summ) none (some (tabSum hashTab)) (Nat.beq f 20)) = some s := h
  cases hb : Nat.beq f 20 with
  | false => rw [hb] at h; cases h
  | true =>
    rw [hb] at h
    cases h
    rw [beq_iff] at hb
    subst hb
    exact fun ι H w args args' v H' s hr hv => tab_sound mixed (E0_ok B) (nat_lit 5000) 20 hashTab_ok s hr hv
end Go.Proofs.YtlajogneffpnlaaGreat.Eng
