/-
  What the digest of each byte string is that the law's call digests: a run of the program's own digest. No condition.
-/
import Derived.Test.YtlajogneffpnlaaGreatT
namespace Go.Proofs.YtlajogneffpnlaaGreat.Eng
open Go Go.Eng
set_option linter.unusedVariables false
set_option maxRecDepth 100000
def bt (n : Nat) : Value := .int .u8 (.ofNat n)
noncomputable def row0 : List Value × Value := ([bt 0, bt 97], (.agg ⟨[bt 2, bt 42, bt 105, bt 121, bt 230, bt 218, bt 183, bt 170, bt 90, bt 228, bt 195, bt 229, bt 228, bt 95, bt 126, bt 151, bt 113, bt 18, bt 167, bt 230, bt 53, bt 147, bt 130, bt 13, bt 190, bt 193, bt 236, bt 115, bt 138, bt 36, bt 249, bt 60]⟩))
theorem row0_ok : tabRow E0 (nat_lit 5000) 20 row0 = true := by kernel_rfl
noncomputable def row1 : List Value × Value := ([bt 0, bt 1, bt 1, bt 97, bt 1, bt 49], (.agg ⟨[bt 53, bt 211, bt 6, bt 76, bt 135, bt 238, bt 51, bt 18, bt 62, bt 39, bt 237, bt 96, bt 251, bt 89, bt 49, bt 25, bt 144, bt 122, bt 247, bt 181, bt 43, bt 104, bt 43, bt 186, bt 174, bt 136, bt 88, bt 22, bt 145, bt 23, bt 107, bt 27]⟩))
theorem row1_ok : tabRow E0 (nat_lit 5000) 20 row1 = true := by kernel_rfl
noncomputable def row2 : List Value × Value := ([bt 0, bt 1, bt 1, bt 98, bt 1, bt 50], (.agg ⟨[bt 194, bt 114, bt 93, bt 209, bt 237, bt 211, bt 33, bt 80, bt 133, bt 182, bt 158, bt 129, bt 10, bt 181, bt 195, bt 1, bt 255, bt 201, bt 53, bt 128, bt 242, bt 239, bt 6, bt 207, bt 106, bt 12, bt 235, bt 77, bt 142, bt 28, bt 230, bt 124]⟩))
theorem row2_ok : tabRow E0 (nat_lit 5000) 20 row2 = true := by kernel_rfl
noncomputable def row3 : List Value × Value := ([bt 1, bt 2, bt 1, bt 97, bt 53, bt 211, bt 6, bt 76, bt 135, bt 238, bt 51, bt 18, bt 62, bt 39, bt 237, bt 96, bt 251, bt 89, bt 49, bt 25, bt 144, bt 122, bt 247, bt 181, bt 43, bt 104, bt 43, bt 186, bt 174, bt 136, bt 88, bt 22, bt 145, bt 23, bt 107, bt 27, bt 1, bt 1, bt 98, bt 194, bt 114, bt 93, bt 209, bt 237, bt 211, bt 33, bt 80, bt 133, bt 182, bt 158, bt 129, bt 10, bt 181, bt 195, bt 1, bt 255, bt 201, bt 53, bt 128, bt 242, bt 239, bt 6, bt 207, bt 106, bt 12, bt 235, bt 77, bt 142, bt 28, bt 230, bt 124, bt 1], (.agg ⟨[bt 249, bt 138, bt 50, bt 110, bt 70, bt 148, bt 252, bt 90, bt 188, bt 113, bt 186, bt 7, bt 129, bt 213, bt 250, bt 183, bt 49, bt 98, bt 0, bt 24, bt 59, bt 193, bt 110, bt 87, bt 110, bt 252, bt 4, bt 39, bt 127, bt 77, bt 83, bt 118]⟩))
theorem row3_ok : tabRow E0 (nat_lit 5000) 20 row3 = true := by kernel_rfl
noncomputable def hashTab : List (List Value × Value) := [row0, row1, row2, row3]
theorem hashTab_ok : ∀ e ∈ hashTab, tabRow E0 (nat_lit 5000) 20 e = true := by
  intro e he
  unfold hashTab at he
  rcases List.mem_cons.1 he with rfl | he
  · exact row0_ok
  rcases List.mem_cons.1 he with rfl | he
  · exact row1_ok
  rcases List.mem_cons.1 he with rfl | he
  · exact row2_ok
  rcases List.mem_cons.1 he with rfl | he
  · exact row3_ok
  cases he
noncomputable def E : Env := ⟨tab.get, fun n => Bool.rec (motive := fun _ => Option Summ) none (some (tabSum hashTab)) (Nat.beq n 20), cMethod Tryz.prog, cNilOk Tryz.prog⟩
theorem E_ok (B : Nat) : EnvOK Tryz.prog B E := by
  refine ⟨fun f k h => Tr.allP_get tab_ok f k h, rfl, rfl, fun f s h => ?_⟩
  replace h : (Bool.rec (motive := fun _ => Option Summ) none (some (tabSum hashTab)) (Nat.beq f 20)) = some s := h
  cases hb : Nat.beq f 20 with
  | false => rw [hb] at h; cases h
  | true =>
    rw [hb] at h
    cases h
    rw [beq_iff] at hb
    subst hb
    exact fun ι H w args args' v H' s hr hv => tab_sound mixed (E0_ok B) (nat_lit 5000) 20 hashTab_ok s hr hv
end Go.Proofs.YtlajogneffpnlaaGreat.Eng
