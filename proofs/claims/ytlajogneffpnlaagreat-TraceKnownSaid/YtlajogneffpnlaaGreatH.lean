/-
  What the digest of each byte string is that the law's call digests: a run of the program's own digest. No condition.
-/
import Derived.Test.YtlajogneffpnlaaGreatT
namespace Go.Proofs.YtlajogneffpnlaaGreat.Eng
open Go Go.Eng
set_option linter.unusedVariables false
set_option maxRecDepth 100000
def bt (n : Nat) : Value := .int .u8 (.ofNat n)
noncomputable def row0 : List Value × Value := ([bt 0, bt 2, bt 0, bt 0, bt 1, bt 1, bt 97, bt 0, bt 1, bt 49], (.agg ⟨[bt 228, bt 207, bt 192, bt 20, bt 246, bt 61, bt 97, bt 180, bt 25, bt 205, bt 105, bt 60, bt 233, bt 92, bt 52, bt 68, bt 119, bt 189, bt 18, bt 175, bt 233, bt 61, bt 172, bt 20, bt 109, bt 205, bt 41, bt 206, bt 52, bt 158, bt 242, bt 206]⟩))
theorem row0_ok : tabRow E0 (nat_lit 5000) 20 row0 = true := by kernel_rfl
noncomputable def row1 : List Value × Value := ([bt 0, bt 1, bt 0, bt 0, bt 0], (.agg ⟨[bt 134, bt 249, bt 100, bt 148, bt 153, bt 176, bt 8, bt 6, bt 86, bt 192, bt 20, bt 170, bt 36, bt 79, bt 101, bt 72, bt 100, bt 186, bt 212, bt 20, bt 92, bt 133, bt 19, bt 233, bt 200, bt 64, bt 159, bt 67, bt 125, bt 74, bt 43, bt 59]⟩))
theorem row1_ok : tabRow E0 (nat_lit 5000) 20 row1 = true := by kernel_rfl
noncomputable def row2 : List Value × Value := ([bt 0, bt 2, bt 10, bt 0, bt 2, bt 0, bt 0, bt 1, bt 1, bt 97, bt 0, bt 1, bt 49, bt 5, bt 0, bt 1, bt 0, bt 0, bt 0], (.agg ⟨[bt 226, bt 146, bt 182, bt 131, bt 74, bt 243, bt 150, bt 241, bt 114, bt 199, bt 123, bt 251, bt 99, bt 235, bt 169, bt 237, bt 184, bt 225, bt 51, bt 17, bt 248, bt 53, bt 104, bt 139, bt 182, bt 218, bt 27, bt 229, bt 185, bt 9, bt 158, bt 10]⟩))
theorem row2_ok : tabRow E0 (nat_lit 5000) 20 row2 = true := by kernel_rfl
noncomputable def row3 : List Value × Value := ([bt 57], (.agg ⟨[bt 25, bt 88, bt 30, bt 39, bt 222, bt 124, bt 237, bt 0, bt 255, bt 28, bt 229, bt 11, bt 32, bt 71, bt 231, bt 165, bt 103, bt 199, bt 107, bt 28, bt 186, bt 235, bt 171, bt 229, bt 239, bt 3, bt 247, bt 195, bt 1, bt 123, bt 181, bt 183]⟩))
theorem row3_ok : tabRow E0 (nat_lit 5000) 20 row3 = true := by kernel_rfl
noncomputable def row4 : List Value × Value := ([bt 0, bt 1, bt 1, bt 57], (.agg ⟨[bt 29, bt 251, bt 44, bt 154, bt 156, bt 5, bt 6, bt 213, bt 62, bt 36, bt 80, bt 13, bt 83, bt 239, bt 40, bt 168, bt 118, bt 216, bt 234, bt 103, bt 57, bt 98, bt 252, bt 142, bt 166, bt 186, bt 205, bt 125, bt 161, bt 129, bt 244, bt 60]⟩))
theorem row4_ok : tabRow E0 (nat_lit 5000) 20 row4 = true := by kernel_rfl
noncomputable def hashTab : List (List Value × Value) := [row0, row1, row2, row3, row4]
theorem hashTab_ok : ∀ e ∈ hashTab, tabRow E0 (nat_lit 5000) 20 e = true := by
  intro e he
  unfold hashTab at he
  rcases List.mem_cons.1 he with rfl | he
  · exact row0_ok
  rcases List.mem_cons.1 he with rfl | he
  · exact row1_ok
  rcases List.mem_cons.1 he with rfl | he
  · exact row2_ok
  rcases List.mem_cons.1 he with rfl | he
  · exact row3_ok
  rcases List.mem_cons.1 he with rfl | he
  · exact row4_ok
  cases he
noncomputable def E : Env := ⟨tab.get, fun n => Bool.rec (motive := fun _ => Option Summ) none (some (tabSum hashTab)) (Nat.beq n 20), cMethod Tryz.prog, cNilOk Tryz.prog⟩
theorem E_ok (B : Nat) : EnvOK Tryz.prog B E := by
  refine ⟨fun f k h => Tr.allP_get tab_ok f k h, rfl, rfl, fun f s h => ?_⟩
  replace h : (Bool.rec (motive := fun _ => Option Summ) none (some (tabSum hashTab)) (Nat.beq f 20)) = some s := h
  cases hb : Nat.beq f 20 with
  | false => rw [hb] at h; cases h
  | true =>
    rw [hb] at h
    cases h
    rw [beq_iff] at hb
    subst hb
    exact fun ι H w args args' v H' s hr hv => tab_sound mixed (E0_ok B) (nat_lit 5000) 20 hashTab_ok s hr hv
end Go.Proofs.YtlajogneffpnlaaGreat.Eng
