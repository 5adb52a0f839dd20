/-
  What the digest of each byte string is that the law's call digests: a run of the program's own digest. No condition.
-/
import Derived.Test.YtlppncaohmbihaaGreatT
namespace Go.Proofs.YtlppncaohmbihaaGreat.Eng
open Go Go.Eng
set_option linter.unusedVariables false
set_option maxRecDepth 100000
def bt (n : Nat) : Value := .int .u8 (.ofNat n)
def wt (n : Nat) : Value := .int .u32 (.ofNat n)
noncomputable def blk0 : (Value × List Value) × Value := (((.agg ⟨[wt 1779033703, wt 3144134277, wt 1013904242, wt 2773480762, wt 1359893119, wt 2600822924, wt 528734635, wt 1541459225]⟩), [bt 97, bt 98, bt 128, bt 0, bt 0, bt 0, bt 0, bt 0, bt 0, bt 0, bt 0, bt 0, bt 0, bt 0, bt 0, bt 0, bt 0, bt 0, bt 0, bt 0, bt 0, bt 0, bt 0, bt 0, bt 0, bt 0, bt 0, bt 0, bt 0, bt 0, bt 0, bt 0, bt 0, bt 0, bt 0, bt 0, bt 0, bt 0, bt 0, bt 0, bt 0, bt 0, bt 0, bt 0, bt 0, bt 0, bt 0, bt 0, bt 0, bt 0, bt 0, bt 0, bt 0, bt 0, bt 0, bt 0, bt 0, bt 0, bt 0, bt 0, bt 0, bt 0, bt 0, bt 16]), (.agg ⟨[wt 4220395772, wt 776748836, wt 2355151771, wt 3595760577, wt 879925435, wt 2541456205, wt 1493416016, wt 1432487427]⟩))
theorem blk0_ok : tab2Row E0 (nat_lit 5000) 81 blk0 = true := by kernel_rfl
noncomputable def blk1 : (Value × List Value) × Value := (((.agg ⟨[wt 1779033703, wt 3144134277, wt 1013904242, wt 2773480762, wt 1359893119, wt 2600822924, wt 528734635, wt 1541459225]⟩), [bt 0, bt 1, bt 2, bt 97, bt 98, bt 128, bt 0, bt 0, bt 0, bt 0, bt 0, bt 0, bt 0, bt 0, bt 0, bt 0, bt 0, bt 0, bt 0, bt 0, bt 0, bt 0, bt 0, bt 0, bt 0, bt 0, bt 0, bt 0, bt 0, bt 0, bt 0, bt 0, bt 0, bt 0, bt 0, bt 0, bt 0, bt 0, bt 0, bt 0, bt 0, bt 0, bt 0, bt 0, bt 0, bt 0, bt 0, bt 0, bt 0, bt 0, bt 0, bt 0, bt 0, bt 0, bt 0, bt 0, bt 0, bt 0, bt 0, bt 0, bt 0, bt 0, bt 0, bt 40]), (.agg ⟨[wt 1159929685, wt 3306111593, wt 3758183704, wt 1720246599, wt 2824812662, wt 935741806, wt 1276057192, wt 2259009802]⟩))
theorem blk1_ok : tab2Row E0 (nat_lit 5000) 81 blk1 = true := by kernel_rfl
noncomputable def blk2 : (Value × List Value) × Value := (((.agg ⟨[wt 1779033703, wt 3144134277, wt 1013904242, wt 2773480762, wt 1359893119, wt 2600822924, wt 528734635, wt 1541459225]⟩), [bt 0, bt 0, bt 128, bt 0, bt 0, bt 0, bt 0, bt 0, bt 0, bt 0, bt 0, bt 0, bt 0, bt 0, bt 0, bt 0, bt 0, bt 0, bt 0, bt 0, bt 0, bt 0, bt 0, bt 0, bt 0, bt 0, bt 0, bt 0, bt 0, bt 0, bt 0, bt 0, bt 0, bt 0, bt 0, bt 0, bt 0, bt 0, bt 0, bt 0, bt 0, bt 0, bt 0, bt 0, bt 0, bt 0, bt 0, bt 0, bt 0, bt 0, bt 0, bt 0, bt 0, bt 0, bt 0, bt 0, bt 0, bt 0, bt 0, bt 0, bt 0, bt 0, bt 0, bt 16]), (.agg ⟨[wt 2527237842, wt 619873734, wt 2079232963, wt 260714641, wt 1475402403, wt 1573238910, wt 1091270755, wt 168415175]⟩))
theorem blk2_ok : tab2Row E0 (nat_lit 5000) 81 blk2 = true := by kernel_rfl
noncomputable def blkTab : List ((Value × List Value) × Value) := [blk0, blk1, blk2]
theorem blkTab_ok : ∀ e ∈ blkTab, tab2Row E0 (nat_lit 5000) 81 e = true := by
  intro e he
  unfold blkTab at he
  rcases List.mem_cons.1 he with rfl | he
  · exact blk0_ok
  rcases List.mem_cons.1 he with rfl | he
  · exact blk1_ok
  rcases List.mem_cons.1 he with rfl | he
  · exact blk2_ok
  cases he
noncomputable def E1 : Env := ⟨tab.get, fun n => Bool.rec (motive := fun _ => Option Summ) none (some (tab2Sum blkTab)) (Nat.beq n 81), cMethod Tryz.prog, cNilOk Tryz.prog⟩
theorem E1_ok (B : Nat) : EnvOK Tryz.prog B E1 := by
  refine ⟨fun f k h => Tr.allP_get tab_ok f k h, rfl, rfl, fun f s h => ?_⟩
  replace h : (Bool.rec (motive := fun _ => Option Summ) none (some (tab2Sum blkTab)) (Nat.beq f 81)) = some s := h
  cases hb : Nat.beq f 81 with
  | false => rw [hb] at h; cases h
  | true =>
    rw [hb] at h
    cases h
    rw [beq_iff] at hb
    subst hb
    exact fun ι H w args args' v H' s hr hv => tab2_sound mixed (E0_ok B) (nat_lit 5000) 81 blkTab_ok s hr hv
noncomputable def row0 : List Value × Value := ([bt 97, bt 98], (.agg ⟨[bt 251, bt 142, bt 32, bt 252, bt 46, bt 76, bt 63, bt 36, bt 140, bt 96, bt 195, bt 155, bt 214, bt 82, bt 243, bt 193, bt 52, bt 114, bt 152, bt 187, bt 151, bt 123, bt 139, bt 77, bt 89, bt 3, bt 184, bt 80, bt 85, bt 98, bt 6, bt 3]⟩))
theorem row0_ok : tabRow E1 (nat_lit 5000) 22 row0 = true := by kernel_rfl
noncomputable def row1 : List Value × Value := ([bt 0, bt 1, bt 2, bt 97, bt 98], (.agg ⟨[bt 69, bt 35, bt 31, bt 85, bt 197, bt 15, bt 66, bt 105, bt 224, bt 1, bt 85, bt 24, bt 102, bt 136, bt 225, bt 71, bt 168, bt 95, bt 56, bt 118, bt 55, bt 198, bt 73, bt 110, bt 76, bt 15, bt 22, bt 104, bt 134, bt 165, bt 193, bt 10]⟩))
theorem row1_ok : tabRow E1 (nat_lit 5000) 22 row1 = true := by kernel_rfl
noncomputable def row2 : List Value × Value := ([bt 0, bt 0], (.agg ⟨[bt 150, bt 162, bt 150, bt 210, bt 36, bt 242, bt 133, bt 198, bt 123, bt 238, bt 147, bt 195, bt 15, bt 138, bt 48, bt 145, bt 87, bt 240, bt 218, bt 163, bt 93, bt 197, bt 184, bt 126, bt 65, bt 11, bt 120, bt 99, bt 10, bt 9, bt 207, bt 199]⟩))
theorem row2_ok : tabRow E1 (nat_lit 5000) 22 row2 = true := by kernel_rfl
noncomputable def hashTab : List (List Value × Value) := [row0, row1, row2]
theorem hashTab_ok : ∀ e ∈ hashTab, tabRow E1 (nat_lit 5000) 22 e = true := by
  intro e he
  unfold hashTab at he
  rcases List.mem_cons.1 he with rfl | he
  · exact row0_ok
  rcases List.mem_cons.1 he with rfl | he
  · exact row1_ok
  rcases List.mem_cons.1 he with rfl | he
  · exact row2_ok
  cases he
noncomputable def E : Env := ⟨tab.get, fun n => Bool.rec (motive := fun _ => Option Summ) none (some (tabSum hashTab)) (Nat.beq n 22), cMethod Tryz.prog, cNilOk Tryz.prog⟩
theorem E_ok (B : Nat) : EnvOK Tryz.prog B E := by
  refine ⟨fun f k h => Tr.allP_get tab_ok f k h, rfl, rfl, fun f s h => ?_⟩
  replace h : (Bool.rec (motive := fun _ => Option Summ) none (some (tabSum hashTab)) (Nat.beq f 22)) = some s := h
  cases hb : Nat.beq f 22 with
  | false => rw [hb] at h; cases h
  | true =>
    rw [hb] at h
    cases h
    rw [beq_iff] at hb
    subst hb
    exact fun ι H w args args' v H' s hr hv => tab_sound mixed (E1_ok B) (nat_lit 5000) 22 hashTab_ok s hr hv
end Go.Proofs.YtlppncaohmbihaaGreat.Eng
