/-
  What the digest of each byte string is that the law's call digests: a run of the program's own digest. No condition.
-/
import Derived.Test.YtobifggnopkeeaaGreatDoorT
namespace Go.Proofs.YtobifggnopkeeaaGreatDoor.Eng
open Go Go.Eng
set_option linter.unusedVariables false
set_option maxRecDepth 100000
def bt (n : Nat) : Value := .int .u8 (.ofNat n)
def wt (n : Nat) : Value := .int .u32 (.ofNat n)
noncomputable def blk0 : (Value × List Value) × Value := (((.agg ⟨[wt 1779033703, wt 3144134277, wt 1013904242, wt 2773480762, wt 1359893119, wt 2600822924, wt 528734635, wt 1541459225]⟩), [bt 0, bt 128, bt 0, bt 0, bt 0, bt 0, bt 0, bt 0, bt 0, bt 0, bt 0, bt 0, bt 0, bt 0, bt 0, bt 0, bt 0, bt 0, bt 0, bt 0, bt 0, bt 0, bt 0, bt 0, bt 0, bt 0, bt 0, bt 0, bt 0, bt 0, bt 0, bt 0, bt 0, bt 0, bt 0, bt 0, bt 0, bt 0, bt 0, bt 0, bt 0, bt 0, bt 0, bt 0, bt 0, bt 0, bt 0, bt 0, bt 0, bt 0, bt 0, bt 0, bt 0, bt 0, bt 0, bt 0, bt 0, bt 0, bt 0, bt 0, bt 0, bt 0, bt 0, bt 8]), (.agg ⟨[wt 1848904604, wt 4289952408, wt 2628076774, wt 3145206316, wt 2022710591, wt 3006740598, wt 2232525574, wt 397385757]⟩))
theorem blk0_ok : tab2Row E0 (nat_lit 5000) 182 blk0 = true := by kernel_rfl
noncomputable def blk1 : (Value × List Value) × Value := (((.agg ⟨[wt 1779033703, wt 3144134277, wt 1013904242, wt 2773480762, wt 1359893119, wt 2600822924, wt 528734635, wt 1541459225]⟩), [bt 0, bt 1, bt 1, bt 0, bt 128, bt 0, bt 0, bt 0, bt 0, bt 0, bt 0, bt 0, bt 0, bt 0, bt 0, bt 0, bt 0, bt 0, bt 0, bt 0, bt 0, bt 0, bt 0, bt 0, bt 0, bt 0, bt 0, bt 0, bt 0, bt 0, bt 0, bt 0, bt 0, bt 0, bt 0, bt 0, bt 0, bt 0, bt 0, bt 0, bt 0, bt 0, bt 0, bt 0, bt 0, bt 0, bt 0, bt 0, bt 0, bt 0, bt 0, bt 0, bt 0, bt 0, bt 0, bt 0, bt 0, bt 0, bt 0, bt 0, bt 0, bt 0, bt 0, bt 32]), (.agg ⟨[wt 3588412076, wt 129450430, wt 1492564453, wt 249454556, wt 4050599552, wt 1408036755, wt 1357345867, wt 227268876]⟩))
theorem blk1_ok : tab2Row E0 (nat_lit 5000) 182 blk1 = true := by kernel_rfl
noncomputable def blk2 : (Value × List Value) × Value := (((.agg ⟨[wt 1779033703, wt 3144134277, wt 1013904242, wt 2773480762, wt 1359893119, wt 2600822924, wt 528734635, wt 1541459225]⟩), [bt 0, bt 0, bt 0, bt 0, bt 0, bt 128, bt 0, bt 0, bt 0, bt 0, bt 0, bt 0, bt 0, bt 0, bt 0, bt 0, bt 0, bt 0, bt 0, bt 0, bt 0, bt 0, bt 0, bt 0, bt 0, bt 0, bt 0, bt 0, bt 0, bt 0, bt 0, bt 0, bt 0, bt 0, bt 0, bt 0, bt 0, bt 0, bt 0, bt 0, bt 0, bt 0, bt 0, bt 0, bt 0, bt 0, bt 0, bt 0, bt 0, bt 0, bt 0, bt 0, bt 0, bt 0, bt 0, bt 0, bt 0, bt 0, bt 0, bt 0, bt 0, bt 0, bt 0, bt 40]), (.agg ⟨[wt 2287292554, wt 2917232325, wt 1943150186, wt 1214119178, wt 1982072924, wt 437564908, wt 3714352606, wt 208157092]⟩))
theorem blk2_ok : tab2Row E0 (nat_lit 5000) 182 blk2 = true := by kernel_rfl
noncomputable def blk3 : (Value × List Value) × Value := (((.agg ⟨[wt 1779033703, wt 3144134277, wt 1013904242, wt 2773480762, wt 1359893119, wt 2600822924, wt 528734635, wt 1541459225]⟩), [bt 0, bt 1, bt 5, bt 0, bt 0, bt 0, bt 0, bt 0, bt 128, bt 0, bt 0, bt 0, bt 0, bt 0, bt 0, bt 0, bt 0, bt 0, bt 0, bt 0, bt 0, bt 0, bt 0, bt 0, bt 0, bt 0, bt 0, bt 0, bt 0, bt 0, bt 0, bt 0, bt 0, bt 0, bt 0, bt 0, bt 0, bt 0, bt 0, bt 0, bt 0, bt 0, bt 0, bt 0, bt 0, bt 0, bt 0, bt 0, bt 0, bt 0, bt 0, bt 0, bt 0, bt 0, bt 0, bt 0, bt 0, bt 0, bt 0, bt 0, bt 0, bt 0, bt 0, bt 64]), (.agg ⟨[wt 4019180436, wt 1632014407, wt 4012207315, wt 2139647958, wt 2229049459, wt 1947459875, wt 1921209857, wt 746997524]⟩))
theorem blk3_ok : tab2Row E0 (nat_lit 5000) 182 blk3 = true := by kernel_rfl
noncomputable def blk4 : (Value × List Value) × Value := (((.agg ⟨[wt 1779033703, wt 3144134277, wt 1013904242, wt 2773480762, wt 1359893119, wt 2600822924, wt 528734635, wt 1541459225]⟩), [bt 82, bt 69, bt 84, bt 67, bt 1, bt 1, bt 0, bt 1, bt 1, bt 97, bt 1, bt 0, bt 128, bt 0, bt 0, bt 0, bt 0, bt 0, bt 0, bt 0, bt 0, bt 0, bt 0, bt 0, bt 0, bt 0, bt 0, bt 0, bt 0, bt 0, bt 0, bt 0, bt 0, bt 0, bt 0, bt 0, bt 0, bt 0, bt 0, bt 0, bt 0, bt 0, bt 0, bt 0, bt 0, bt 0, bt 0, bt 0, bt 0, bt 0, bt 0, bt 0, bt 0, bt 0, bt 0, bt 0, bt 0, bt 0, bt 0, bt 0, bt 0, bt 0, bt 0, bt 96]), (.agg ⟨[wt 3529648706, wt 2689100739, wt 1624985666, wt 2058298227, wt 4193454837, wt 1925451366, wt 2521331793, wt 2367582049]⟩))
theorem blk4_ok : tab2Row E0 (nat_lit 5000) 182 blk4 = true := by kernel_rfl
noncomputable def blkTab : List ((Value × List Value) × Value) := [blk0, blk1, blk2, blk3, blk4]
theorem blkTab_ok : ∀ e ∈ blkTab, tab2Row E0 (nat_lit 5000) 182 e = true := by
  intro e he
  unfold blkTab at he
  rcases List.mem_cons.1 he with rfl | he
  · exact blk0_ok
  rcases List.mem_cons.1 he with rfl | he
  · exact blk1_ok
  rcases List.mem_cons.1 he with rfl | he
  · exact blk2_ok
  rcases List.mem_cons.1 he with rfl | he
  · exact blk3_ok
  rcases List.mem_cons.1 he with rfl | he
  · exact blk4_ok
  cases he
noncomputable def E1 : Env := ⟨tab.get, fun n => Bool.rec (motive := fun _ => Option Summ) none (some (tab2Sum blkTab)) (Nat.beq n 182), cMethod Tryz.prog, cNilOk Tryz.prog⟩
theorem E1_ok (B : Nat) : EnvOK Tryz.prog B E1 := by
  refine ⟨fun f k h => Tr.allP_get tab_ok f k h, rfl, rfl, fun f s h => ?_⟩
  replace h : (Bool.rec (motive := fun _ => Option Summ) none (some (tab2Sum blkTab)) (Nat.beq f 182)) = some s := h
  cases hb : Nat.beq f 182 with
  | false => rw [hb] at h; cases h
  | true =>
    rw [hb] at h
    cases h
    rw [beq_iff] at hb
    subst hb
    exact fun ι H w args args' v H' s hr hv => tab2_sound mixed (E0_ok B) (nat_lit 5000) 182 blkTab_ok s hr hv
noncomputable def row0 : List Value × Value := ([bt 0], (.agg ⟨[bt 110, bt 52, bt 11, bt 156, bt 255, bt 179, bt 122, bt 152, bt 156, bt 165, bt 68, bt 230, bt 187, bt 120, bt 10, bt 44, bt 120, bt 144, bt 29, bt 63, bt 179, bt 55, bt 56, bt 118, bt 133, bt 17, bt 163, bt 6, bt 23, bt 175, bt 160, bt 29]⟩))
theorem row0_ok : tabRow E1 (nat_lit 5000) 51 row0 = true := by kernel_rfl
noncomputable def row1 : List Value × Value := ([bt 0, bt 1, bt 1, bt 0], (.agg ⟨[bt 213, bt 226, bt 210, bt 172, bt 7, bt 183, bt 65, bt 190, bt 88, bt 246, bt 185, bt 229, bt 14, bt 222, bt 95, bt 220, bt 241, bt 111, bt 62, bt 128, bt 83, bt 236, bt 239, bt 147, bt 80, bt 231, bt 116, bt 75, bt 13, bt 139, bt 217, bt 12]⟩))
theorem row1_ok : tabRow E1 (nat_lit 5000) 51 row1 = true := by kernel_rfl
noncomputable def row2 : List Value × Value := ([bt 0, bt 0, bt 0, bt 0, bt 0], (.agg ⟨[bt 136, bt 85, bt 80, bt 138, bt 173, bt 225, bt 110, bt 197, bt 115, bt 210, bt 30, bt 106, bt 72, bt 93, bt 253, bt 10, bt 118, bt 36, bt 8, bt 92, bt 26, bt 20, bt 181, bt 236, bt 221, bt 100, bt 133, bt 222, bt 12, bt 104, bt 57, bt 164]⟩))
theorem row2_ok : tabRow E1 (nat_lit 5000) 51 row2 = true := by kernel_rfl
noncomputable def row3 : List Value × Value := ([bt 0, bt 1, bt 5, bt 0, bt 0, bt 0, bt 0, bt 0], (.agg ⟨[bt 239, bt 143, bt 211, bt 148, bt 97, bt 70, bt 144, bt 71, bt 239, bt 37, bt 108, bt 211, bt 127, bt 136, bt 111, bt 214, bt 132, bt 220, bt 152, bt 115, bt 116, bt 19, bt 225, bt 35, bt 114, bt 131, bt 86, bt 1, bt 44, bt 134, bt 71, bt 20]⟩))
theorem row3_ok : tabRow E1 (nat_lit 5000) 51 row3 = true := by kernel_rfl
noncomputable def row4 : List Value × Value := ([bt 82, bt 69, bt 84, bt 67, bt 1, bt 1, bt 0, bt 1, bt 1, bt 97, bt 1, bt 0], (.agg ⟨[bt 210, bt 98, bt 42, bt 66, bt 160, bt 72, bt 107, bt 195, bt 96, bt 219, bt 80, bt 66, bt 122, bt 175, bt 35, bt 115, bt 249, bt 243, bt 10, bt 245, bt 114, bt 196, bt 14, bt 102, bt 150, bt 72, bt 120, bt 81, bt 141, bt 30, bt 111, bt 97]⟩))
theorem row4_ok : tabRow E1 (nat_lit 5000) 51 row4 = true := by kernel_rfl
noncomputable def hashTab : List (List Value × Value) := [row0, row1, row2, row3, row4]
theorem hashTab_ok : ∀ e ∈ hashTab, tabRow E1 (nat_lit 5000) 51 e = true := by
  intro e he
  unfold hashTab at he
  rcases List.mem_cons.1 he with rfl | he
  · exact row0_ok
  rcases List.mem_cons.1 he with rfl | he
  · exact row1_ok
  rcases List.mem_cons.1 he with rfl | he
  · exact row2_ok
  rcases List.mem_cons.1 he with rfl | he
  · exact row3_ok
  rcases List.mem_cons.1 he with rfl | he
  · exact row4_ok
  cases he
noncomputable def E : Env := ⟨tab.get, fun n => Bool.rec (motive := fun _ => Option Summ) none (some (tabSum hashTab)) (Nat.beq n 51), cMethod Tryz.prog, cNilOk Tryz.prog⟩
theorem E_ok (B : Nat) : EnvOK Tryz.prog B E := by
  refine ⟨fun f k h => Tr.allP_get tab_ok f k h, rfl, rfl, fun f s h => ?_⟩
  replace h : (Bool.rec (motive := fun _ => Option Summ) none (some (tabSum hashTab)) (Nat.beq f 51)) = some s := h
  cases hb : Nat.beq f 51 with
  | false => rw [hb] at h; cases h
  | true =>
    rw [hb] at h
    cases h
    rw [beq_iff] at hb
    subst hb
    exact fun ι H w args args' v H' s hr hv => tab_sound mixed (E1_ok B) (nat_lit 5000) 51 hashTab_ok s hr hv
noncomputable def E3 : Env := (((E.add 277 cmpSum).add 249 cmpSum).add 363 idxSum)
theorem E3_ok (B : Nat) : EnvOK Tryz.prog B E3 := ((((E_ok B).add 277 cmpSum fun ι H w args args' v H' s hr hv => cmp_sound Tryz.func277 (by kernel_rfl) (by kernel_rfl) (by kernel_rfl) (by kernel_rfl) s hr hv).add 249 cmpSum fun ι H w args args' v H' s hr hv => cmp_sound Tryz.func249 (by kernel_rfl) (by kernel_rfl) (by kernel_rfl) (by kernel_rfl) s hr hv).add 363 idxSum fun ι H w args args' v H' s hr hv => idx_sound Tryz.func363 (by kernel_rfl) (by kernel_rfl) (by kernel_rfl) (by kernel_rfl) s hr hv)
end Go.Proofs.YtobifggnopkeeaaGreatDoor.Eng
