/-
  What the digest of each byte string is that the law's call digests: a run of the program's own digest. No condition.
-/
import Derived.Test.YtmahngadjllfpaaGreatDoorT
namespace Go.Proofs.YtmahngadjllfpaaGreatDoor.Eng
open Go Go.Eng
set_option linter.unusedVariables false
set_option maxRecDepth 100000
def bt (n : Nat) : Value := .int .u8 (.ofNat n)
def wt (n : Nat) : Value := .int .u32 (.ofNat n)
noncomputable def blk0 : (Value × List Value) × Value := (((.agg ⟨[wt 1779033703, wt 3144134277, wt 1013904242, wt 2773480762, wt 1359893119, wt 2600822924, wt 528734635, wt 1541459225]⟩), [bt 0, bt 0, bt 128, bt 0, bt 0, bt 0, bt 0, bt 0, bt 0, bt 0, bt 0, bt 0, bt 0, bt 0, bt 0, bt 0, bt 0, bt 0, bt 0, bt 0, bt 0, bt 0, bt 0, bt 0, bt 0, bt 0, bt 0, bt 0, bt 0, bt 0, bt 0, bt 0, bt 0, bt 0, bt 0, bt 0, bt 0, bt 0, bt 0, bt 0, bt 0, bt 0, bt 0, bt 0, bt 0, bt 0, bt 0, bt 0, bt 0, bt 0, bt 0, bt 0, bt 0, bt 0, bt 0, bt 0, bt 0, bt 0, bt 0, bt 0, bt 0, bt 0, bt 0, bt 16]), (.agg ⟨[wt 2527237842, wt 619873734, wt 2079232963, wt 260714641, wt 1475402403, wt 1573238910, wt 1091270755, wt 168415175]⟩))
theorem blk0_ok : tab2Row E0 (nat_lit 5000) 287 blk0 = true := by kernel_rfl
noncomputable def blk1 : (Value × List Value) × Value := (((.agg ⟨[wt 1779033703, wt 3144134277, wt 1013904242, wt 2773480762, wt 1359893119, wt 2600822924, wt 528734635, wt 1541459225]⟩), [bt 2, bt 1, bt 0, bt 1, bt 97, bt 4, bt 0, bt 0, bt 128, bt 0, bt 0, bt 0, bt 0, bt 0, bt 0, bt 0, bt 0, bt 0, bt 0, bt 0, bt 0, bt 0, bt 0, bt 0, bt 0, bt 0, bt 0, bt 0, bt 0, bt 0, bt 0, bt 0, bt 0, bt 0, bt 0, bt 0, bt 0, bt 0, bt 0, bt 0, bt 0, bt 0, bt 0, bt 0, bt 0, bt 0, bt 0, bt 0, bt 0, bt 0, bt 0, bt 0, bt 0, bt 0, bt 0, bt 0, bt 0, bt 0, bt 0, bt 0, bt 0, bt 0, bt 0, bt 64]), (.agg ⟨[wt 1966219398, wt 1413602157, wt 3597221111, wt 2068021939, wt 2081469704, wt 604998968, wt 1691919569, wt 3193393198]⟩))
theorem blk1_ok : tab2Row E0 (nat_lit 5000) 287 blk1 = true := by kernel_rfl
noncomputable def blk2 : (Value × List Value) × Value := (((.agg ⟨[wt 1779033703, wt 3144134277, wt 1013904242, wt 2773480762, wt 1359893119, wt 2600822924, wt 528734635, wt 1541459225]⟩), [bt 0, bt 2, bt 8, bt 2, bt 1, bt 0, bt 1, bt 97, bt 4, bt 0, bt 0, bt 8, bt 2, bt 1, bt 0, bt 1, bt 97, bt 4, bt 0, bt 0, bt 128, bt 0, bt 0, bt 0, bt 0, bt 0, bt 0, bt 0, bt 0, bt 0, bt 0, bt 0, bt 0, bt 0, bt 0, bt 0, bt 0, bt 0, bt 0, bt 0, bt 0, bt 0, bt 0, bt 0, bt 0, bt 0, bt 0, bt 0, bt 0, bt 0, bt 0, bt 0, bt 0, bt 0, bt 0, bt 0, bt 0, bt 0, bt 0, bt 0, bt 0, bt 0, bt 0, bt 160]), (.agg ⟨[wt 1168249334, wt 568094132, wt 1765861012, wt 652664792, wt 1840908373, wt 1976140707, wt 160810270, wt 2449118846]⟩))
theorem blk2_ok : tab2Row E0 (nat_lit 5000) 287 blk2 = true := by kernel_rfl
noncomputable def blk3 : (Value × List Value) × Value := (((.agg ⟨[wt 1779033703, wt 3144134277, wt 1013904242, wt 2773480762, wt 1359893119, wt 2600822924, wt 528734635, wt 1541459225]⟩), [bt 0, bt 2, bt 0, bt 0, bt 1, bt 1, bt 97, bt 0, bt 1, bt 97, bt 128, bt 0, bt 0, bt 0, bt 0, bt 0, bt 0, bt 0, bt 0, bt 0, bt 0, bt 0, bt 0, bt 0, bt 0, bt 0, bt 0, bt 0, bt 0, bt 0, bt 0, bt 0, bt 0, bt 0, bt 0, bt 0, bt 0, bt 0, bt 0, bt 0, bt 0, bt 0, bt 0, bt 0, bt 0, bt 0, bt 0, bt 0, bt 0, bt 0, bt 0, bt 0, bt 0, bt 0, bt 0, bt 0, bt 0, bt 0, bt 0, bt 0, bt 0, bt 0, bt 0, bt 80]), (.agg ⟨[wt 290949101, wt 3262893952, wt 3450661333, wt 2290060708, wt 3526464559, wt 2155139694, wt 2148942905, wt 3036987245]⟩))
theorem blk3_ok : tab2Row E0 (nat_lit 5000) 287 blk3 = true := by kernel_rfl
noncomputable def blk4 : (Value × List Value) × Value := (((.agg ⟨[wt 1779033703, wt 3144134277, wt 1013904242, wt 2773480762, wt 1359893119, wt 2600822924, wt 528734635, wt 1541459225]⟩), [bt 0, bt 2, bt 10, bt 0, bt 2, bt 0, bt 0, bt 1, bt 1, bt 97, bt 0, bt 1, bt 97, bt 10, bt 0, bt 2, bt 0, bt 0, bt 1, bt 1, bt 97, bt 0, bt 1, bt 97, bt 128, bt 0, bt 0, bt 0, bt 0, bt 0, bt 0, bt 0, bt 0, bt 0, bt 0, bt 0, bt 0, bt 0, bt 0, bt 0, bt 0, bt 0, bt 0, bt 0, bt 0, bt 0, bt 0, bt 0, bt 0, bt 0, bt 0, bt 0, bt 0, bt 0, bt 0, bt 0, bt 0, bt 0, bt 0, bt 0, bt 0, bt 0, bt 0, bt 192]), (.agg ⟨[wt 859647353, wt 3697295694, wt 349285367, wt 3766875891, wt 1902951697, wt 2118278603, wt 693079478, wt 3206481688]⟩))
theorem blk4_ok : tab2Row E0 (nat_lit 5000) 287 blk4 = true := by kernel_rfl
noncomputable def blkTab : List ((Value × List Value) × Value) := [blk0, blk1, blk2, blk3, blk4]
theorem blkTab_ok : ∀ e ∈ blkTab, tab2Row E0 (nat_lit 5000) 287 e = true := by
  intro e he
  unfold blkTab at he
  rcases List.mem_cons.1 he with rfl | he
  · exact blk0_ok
  rcases List.mem_cons.1 he with rfl | he
  · exact blk1_ok
  rcases List.mem_cons.1 he with rfl | he
  · exact blk2_ok
  rcases List.mem_cons.1 he with rfl | he
  · exact blk3_ok
  rcases List.mem_cons.1 he with rfl | he
  · exact blk4_ok
  cases he
noncomputable def E1 : Env := ⟨tab.get, fun n => Bool.rec (motive := fun _ => Option Summ) none (some (tab2Sum blkTab)) (Nat.beq n 287), cMethod Tryz.prog, cNilOk Tryz.prog⟩
theorem E1_ok (B : Nat) : EnvOK Tryz.prog B E1 := by
  refine ⟨fun f k h => Tr.allP_get tab_ok f k h, rfl, rfl, fun f s h => ?_⟩
  replace h : (Bool.rec (motive := fun _ => Option Summ) none (some (tab2Sum blkTab)) (Nat.beq f 287)) = some s := h
  cases hb : Nat.beq f 287 with
  | false => rw [hb] at h; cases h
  | true =>
    rw [hb] at h
    cases h
    rw [beq_iff] at hb
    subst hb
    exact fun ι H w args args' v H' s hr hv => tab2_sound mixed (E0_ok B) (nat_lit 5000) 287 blkTab_ok s hr hv
noncomputable def row0 : List Value × Value := ([bt 0, bt 0], (.agg ⟨[bt 150, bt 162, bt 150, bt 210, bt 36, bt 242, bt 133, bt 198, bt 123, bt 238, bt 147, bt 195, bt 15, bt 138, bt 48, bt 145, bt 87, bt 240, bt 218, bt 163, bt 93, bt 197, bt 184, bt 126, bt 65, bt 11, bt 120, bt 99, bt 10, bt 9, bt 207, bt 199]⟩))
theorem row0_ok : tabRow E1 (nat_lit 5000) 106 row0 = true := by kernel_rfl
noncomputable def row1 : List Value × Value := ([bt 2, bt 1, bt 0, bt 1, bt 97, bt 4, bt 0, bt 0], (.agg ⟨[bt 117, bt 50, bt 32, bt 134, bt 84, bt 65, bt 219, bt 109, bt 214, bt 105, bt 60, bt 247, bt 123, bt 67, bt 130, bt 179, bt 124, bt 16, bt 181, bt 8, bt 36, bt 15, bt 141, bt 56, bt 100, bt 216, bt 164, bt 209, bt 190, bt 87, bt 80, bt 46]⟩))
theorem row1_ok : tabRow E1 (nat_lit 5000) 106 row1 = true := by kernel_rfl
noncomputable def row2 : List Value × Value := ([bt 0, bt 2, bt 8, bt 2, bt 1, bt 0, bt 1, bt 97, bt 4, bt 0, bt 0, bt 8, bt 2, bt 1, bt 0, bt 1, bt 97, bt 4, bt 0, bt 0], (.agg ⟨[bt 69, bt 162, bt 17, bt 246, bt 33, bt 220, bt 109, bt 180, bt 105, bt 64, bt 230, bt 148, bt 38, bt 230, bt 223, bt 216, bt 109, bt 186, bt 8, bt 85, bt 117, bt 201, bt 131, bt 163, bt 9, bt 149, bt 197, bt 30, bt 145, bt 250, bt 150, bt 126]⟩))
theorem row2_ok : tabRow E1 (nat_lit 5000) 106 row2 = true := by kernel_rfl
noncomputable def row3 : List Value × Value := ([bt 0, bt 2, bt 0, bt 0, bt 1, bt 1, bt 97, bt 0, bt 1, bt 97], (.agg ⟨[bt 17, bt 87, bt 135, bt 237, bt 194, bt 123, bt 207, bt 128, bt 205, bt 172, bt 233, bt 213, bt 136, bt 127, bt 141, bt 164, bt 210, bt 49, bt 148, bt 47, bt 128, bt 116, bt 210, bt 110, bt 128, bt 22, bt 68, bt 57, bt 181, bt 4, bt 191, bt 109]⟩))
theorem row3_ok : tabRow E1 (nat_lit 5000) 106 row3 = true := by kernel_rfl
noncomputable def row4 : List Value × Value := ([bt 0, bt 2, bt 10, bt 0, bt 2, bt 0, bt 0, bt 1, bt 1, bt 97, bt 0, bt 1, bt 97, bt 10, bt 0, bt 2, bt 0, bt 0, bt 1, bt 1, bt 97, bt 0, bt 1, bt 97], (.agg ⟨[bt 51, bt 61, bt 45, bt 121, bt 220, bt 96, bt 65, bt 78, bt 20, bt 209, bt 171, bt 247, bt 224, bt 133, bt 246, bt 243, bt 113, bt 108, bt 189, bt 17, bt 126, bt 66, bt 93, bt 203, bt 41, bt 79, bt 141, bt 182, bt 191, bt 31, bt 7, bt 24]⟩))
theorem row4_ok : tabRow E1 (nat_lit 5000) 106 row4 = true := by kernel_rfl
noncomputable def hashTab : List (List Value × Value) := [row0, row1, row2, row3, row4]
theorem hashTab_ok : ∀ e ∈ hashTab, tabRow E1 (nat_lit 5000) 106 e = true := by
  intro e he
  unfold hashTab at he
  rcases List.mem_cons.1 he with rfl | he
  · exact row0_ok
  rcases List.mem_cons.1 he with rfl | he
  · exact row1_ok
  rcases List.mem_cons.1 he with rfl | he
  · exact row2_ok
  rcases List.mem_cons.1 he with rfl | he
  · exact row3_ok
  rcases List.mem_cons.1 he with rfl | he
  · exact row4_ok
  cases he
noncomputable def E : Env := ⟨tab.get, fun n => Bool.rec (motive := fun _ => Option Summ) none (some (tabSum hashTab)) (Nat.beq n 106), cMethod Tryz.prog, cNilOk Tryz.prog⟩
theorem E_ok (B : Nat) : EnvOK Tryz.prog B E := by
  refine ⟨fun f k h => Tr.allP_get tab_ok f k h, rfl, rfl, fun f s h => ?_⟩
  replace h : (Bool.rec (motive := fun _ => Option Summ) none (some (tabSum hashTab)) (Nat.beq f 106)) = some s := h
  cases hb : Nat.beq f 106 with
  | false => rw [hb] at h; cases h
  | true =>
    rw [hb] at h
    cases h
    rw [beq_iff] at hb
    subst hb
    exact fun ι H w args args' v H' s hr hv => tab_sound mixed (E1_ok B) (nat_lit 5000) 106 hashTab_ok s hr hv
noncomputable def E3 : Env := (((E.add 367 cmpSum).add 172 cmpSum).add 479 idxSum)
theorem E3_ok (B : Nat) : EnvOK Tryz.prog B E3 := ((((E_ok B).add 367 cmpSum fun ι H w args args' v H' s hr hv => cmp_sound Tryz.func367 (by kernel_rfl) (by kernel_rfl) (by kernel_rfl) (by kernel_rfl) s hr hv).add 172 cmpSum fun ι H w args args' v H' s hr hv => cmp_sound Tryz.func172 (by kernel_rfl) (by kernel_rfl) (by kernel_rfl) (by kernel_rfl) s hr hv).add 479 idxSum fun ι H w args args' v H' s hr hv => idx_sound Tryz.func479 (by kernel_rfl) (by kernel_rfl) (by kernel_rfl) (by kernel_rfl) s hr hv)
end Go.Proofs.YtmahngadjllfpaaGreatDoor.Eng
