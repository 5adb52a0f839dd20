/-
  What the digest of each byte string is that the law's call digests: a run of the program's own digest. No condition.
-/
import Derived.Test.YtlajogneffpnlaaGreatT
namespace Go.Proofs.YtlajogneffpnlaaGreat.Eng
open Go Go.Eng
set_option linter.unusedVariables false
set_option maxRecDepth 100000
def bt (n : Nat) : Value := .int .u8 (.ofNat n)
def wt (n : Nat) : Value := .int .u32 (.ofNat n)
noncomputable def blk0 : (Value × List Value) × Value := (((.agg ⟨[wt 1779033703, wt 3144134277, wt 1013904242, wt 2773480762, wt 1359893119, wt 2600822924, wt 528734635, wt 1541459225]⟩), [bt 97, bt 98, bt 128, bt 0, bt 0, bt 0, bt 0, bt 0, bt 0, bt 0, bt 0, bt 0, bt 0, bt 0, bt 0, bt 0, bt 0, bt 0, bt 0, bt 0, bt 0, bt 0, bt 0, bt 0, bt 0, bt 0, bt 0, bt 0, bt 0, bt 0, bt 0, bt 0, bt 0, bt 0, bt 0, bt 0, bt 0, bt 0, bt 0, bt 0, bt 0, bt 0, bt 0, bt 0, bt 0, bt 0, bt 0, bt 0, bt 0, bt 0, bt 0, bt 0, bt 0, bt 0, bt 0, bt 0, bt 0, bt 0, bt 0, bt 0, bt 0, bt 0, bt 0, bt 16]), (.agg ⟨[wt 4220395772, wt 776748836, wt 2355151771, wt 3595760577, wt 879925435, wt 2541456205, wt 1493416016, wt 1432487427]⟩))
theorem blk0_ok : tab2Row E0 (nat_lit 5000) 140 blk0 = true := by kernel_rfl
noncomputable def blk1 : (Value × List Value) × Value := (((.agg ⟨[wt 1779033703, wt 3144134277, wt 1013904242, wt 2773480762, wt 1359893119, wt 2600822924, wt 528734635, wt 1541459225]⟩), [bt 1, bt 251, bt 142, bt 32, bt 252, bt 46, bt 76, bt 63, bt 36, bt 140, bt 96, bt 195, bt 155, bt 214, bt 82, bt 243, bt 193, bt 52, bt 114, bt 152, bt 187, bt 151, bt 123, bt 139, bt 77, bt 89, bt 3, bt 184, bt 80, bt 85, bt 98, bt 6, bt 3, bt 2, bt 2, bt 128, bt 0, bt 0, bt 0, bt 0, bt 0, bt 0, bt 0, bt 0, bt 0, bt 0, bt 0, bt 0, bt 0, bt 0, bt 0, bt 0, bt 0, bt 0, bt 0, bt 0, bt 0, bt 0, bt 0, bt 0, bt 0, bt 0, bt 1, bt 24]), (.agg ⟨[wt 4080566498, wt 1142750029, wt 3070890675, wt 1302395763, wt 1297476292, wt 3167510774, wt 462920700, wt 2937284146]⟩))
theorem blk1_ok : tab2Row E0 (nat_lit 5000) 140 blk1 = true := by kernel_rfl
noncomputable def blk2 : (Value × List Value) × Value := (((.agg ⟨[wt 1779033703, wt 3144134277, wt 1013904242, wt 2773480762, wt 1359893119, wt 2600822924, wt 528734635, wt 1541459225]⟩), [bt 82, bt 67, bt 0, bt 0, bt 0, bt 0, bt 0, bt 0, bt 0, bt 1, bt 251, bt 142, bt 32, bt 252, bt 46, bt 76, bt 63, bt 36, bt 140, bt 96, bt 195, bt 155, bt 214, bt 82, bt 243, bt 193, bt 52, bt 114, bt 152, bt 187, bt 151, bt 123, bt 139, bt 77, bt 89, bt 3, bt 184, bt 80, bt 85, bt 98, bt 6, bt 3, bt 0, bt 0, bt 0, bt 3, bt 0, bt 0, bt 0, bt 35, bt 128, bt 0, bt 0, bt 0, bt 0, bt 0, bt 0, bt 0, bt 0, bt 0, bt 0, bt 0, bt 1, bt 144]), (.agg ⟨[wt 167696103, wt 284759383, wt 709562181, wt 313291830, wt 2918259453, wt 3911911868, wt 1896682719, wt 3724929947]⟩))
theorem blk2_ok : tab2Row E0 (nat_lit 5000) 140 blk2 = true := by kernel_rfl
noncomputable def blkTab : List ((Value × List Value) × Value) := [blk0, blk1, blk2]
theorem blkTab_ok : ∀ e ∈ blkTab, tab2Row E0 (nat_lit 5000) 140 e = true := by
  intro e he
  unfold blkTab at he
  rcases List.mem_cons.1 he with rfl | he
  · exact blk0_ok
  rcases List.mem_cons.1 he with rfl | he
  · exact blk1_ok
  rcases List.mem_cons.1 he with rfl | he
  · exact blk2_ok
  cases he
noncomputable def E1 : Env := ⟨tab.get, fun n => Bool.rec (motive := fun _ => Option Summ) none (some (tab2Sum blkTab)) (Nat.beq n 140), cMethod Tryz.prog, cNilOk Tryz.prog⟩
theorem E1_ok (B : Nat) : EnvOK Tryz.prog B E1 := by
  refine ⟨fun f k h => Tr.allP_get tab_ok f k h, rfl, rfl, fun f s h => ?_⟩
  replace h : (Bool.rec (motive := fun _ => Option Summ) none (some (tab2Sum blkTab)) (Nat.beq f 140)) = some s := h
  cases hb : Nat.beq f 140 with
  | false => rw [hb] at h; cases h
  | true =>
    rw [hb] at h
    cases h
    rw [beq_iff] at hb
    subst hb
    exact fun ι H w args args' v H' s hr hv => tab2_sound mixed (E0_ok B) (nat_lit 5000) 140 blkTab_ok s hr hv
noncomputable def row0 : List Value × Value := ([bt 97, bt 98], (.agg ⟨[bt 251, bt 142, bt 32, bt 252, bt 46, bt 76, bt 63, bt 36, bt 140, bt 96, bt 195, bt 155, bt 214, bt 82, bt 243, bt 193, bt 52, bt 114, bt 152, bt 187, bt 151, bt 123, bt 139, bt 77, bt 89, bt 3, bt 184, bt 80, bt 85, bt 98, bt 6, bt 3]⟩))
theorem row0_ok : tabRow E1 (nat_lit 5000) 20 row0 = true := by kernel_rfl
noncomputable def row1 : List Value × Value := ([bt 1, bt 251, bt 142, bt 32, bt 252, bt 46, bt 76, bt 63, bt 36, bt 140, bt 96, bt 195, bt 155, bt 214, bt 82, bt 243, bt 193, bt 52, bt 114, bt 152, bt 187, bt 151, bt 123, bt 139, bt 77, bt 89, bt 3, bt 184, bt 80, bt 85, bt 98, bt 6, bt 3, bt 2, bt 2], (.agg ⟨[bt 243, bt 56, bt 128, bt 226, bt 68, bt 28, bt 251, bt 77, bt 183, bt 10, bt 18, bt 179, bt 77, bt 160, bt 251, bt 115, bt 77, bt 85, bt 234, bt 196, bt 188, bt 204, bt 96, bt 246, bt 27, bt 151, bt 155, bt 252, bt 175, bt 19, bt 102, bt 50]⟩))
theorem row1_ok : tabRow E1 (nat_lit 5000) 20 row1 = true := by kernel_rfl
noncomputable def row2 : List Value × Value := ([bt 82, bt 67, bt 0, bt 0, bt 0, bt 0, bt 0, bt 0, bt 0, bt 1, bt 251, bt 142, bt 32, bt 252, bt 46, bt 76, bt 63, bt 36, bt 140, bt 96, bt 195, bt 155, bt 214, bt 82, bt 243, bt 193, bt 52, bt 114, bt 152, bt 187, bt 151, bt 123, bt 139, bt 77, bt 89, bt 3, bt 184, bt 80, bt 85, bt 98, bt 6, bt 3, bt 0, bt 0, bt 0, bt 3, bt 0, bt 0, bt 0, bt 35], (.agg ⟨[bt 9, bt 254, bt 214, bt 231, bt 16, bt 249, bt 21, bt 87, bt 42, bt 75, bt 15, bt 69, bt 18, bt 172, bt 116, bt 54, bt 173, bt 241, bt 26, bt 253, bt 233, bt 43, bt 9, bt 188, bt 113, bt 13, bt 20, bt 223, bt 222, bt 5, bt 235, bt 155]⟩))
theorem row2_ok : tabRow E1 (nat_lit 5000) 20 row2 = true := by kernel_rfl
noncomputable def hashTab : List (List Value × Value) := [row0, row1, row2]
theorem hashTab_ok : ∀ e ∈ hashTab, tabRow E1 (nat_lit 5000) 20 e = true := by
  intro e he
  unfold hashTab at he
  rcases List.mem_cons.1 he with rfl | he
  · exact row0_ok
  rcases List.mem_cons.1 he with rfl | he
  · exact row1_ok
  rcases List.mem_cons.1 he with rfl | he
  · exact row2_ok
  cases he
noncomputable def E : Env := ⟨tab.get, fun n => Bool.rec (motive := fun _ => Option Summ) none (some (tabSum hashTab)) (Nat.beq n 20), cMethod Tryz.prog, cNilOk Tryz.prog⟩
theorem E_ok (B : Nat) : EnvOK Tryz.prog B E := by
  refine ⟨fun f k h => Tr.allP_get tab_ok f k h, rfl, rfl, fun f s h => ?_⟩
  replace h : (Bool.rec (motive := fun _ => Option Summ) none (some (tabSum hashTab)) (Nat.beq f 20)) = some s := h
  cases hb : Nat.beq f 20 with
  | false => rw [hb] at h; cases h
  | true =>
    rw [hb] at h
    cases h
    rw [beq_iff] at hb
    subst hb
    exact fun ι H w args args' v H' s hr hv => tab_sound mixed (E1_ok B) (nat_lit 5000) 20 hashTab_ok s hr hv
end Go.Proofs.YtlajogneffpnlaaGreat.Eng
