/-
  What the digest of each byte string is that the law's call digests: a run of the program's own digest. No condition.
-/
import Derived.Test.YtfcicokigdebpaaGreatDoorT
import Derived.Test.YtfcicokigdebpaaGreatDoorI
namespace Go.Proofs.YtfcicokigdebpaaGreatDoor.Eng
open Go Go.Eng
set_option linter.unusedVariables false
set_option maxRecDepth 100000
def bt (n : Nat) : Value := .int .u8 (.ofNat n)
def wt (n : Nat) : Value := .int .u32 (.ofNat n)
noncomputable def blk0 : (Value × List Value) × Value := (((.agg ⟨[wt 1779033703, wt 3144134277, wt 1013904242, wt 2773480762, wt 1359893119, wt 2600822924, wt 528734635, wt 1541459225]⟩), [bt 2, bt 1, bt 0, bt 1, bt 97, bt 4, bt 0, bt 0, bt 128, bt 0, bt 0, bt 0, bt 0, bt 0, bt 0, bt 0, bt 0, bt 0, bt 0, bt 0, bt 0, bt 0, bt 0, bt 0, bt 0, bt 0, bt 0, bt 0, bt 0, bt 0, bt 0, bt 0, bt 0, bt 0, bt 0, bt 0, bt 0, bt 0, bt 0, bt 0, bt 0, bt 0, bt 0, bt 0, bt 0, bt 0, bt 0, bt 0, bt 0, bt 0, bt 0, bt 0, bt 0, bt 0, bt 0, bt 0, bt 0, bt 0, bt 0, bt 0, bt 0, bt 0, bt 0, bt 64]), (.agg ⟨[wt 1966219398, wt 1413602157, wt 3597221111, wt 2068021939, wt 2081469704, wt 604998968, wt 1691919569, wt 3193393198]⟩))
theorem blk0_ok : tab2Row E0 (nat_lit 5000) 368 blk0 = true := by kernel_rfl
noncomputable def blk1 : (Value × List Value) × Value := (((.agg ⟨[wt 1779033703, wt 3144134277, wt 1013904242, wt 2773480762, wt 1359893119, wt 2600822924, wt 528734635, wt 1541459225]⟩), [bt 2, bt 1, bt 0, bt 1, bt 98, bt 4, bt 0, bt 0, bt 128, bt 0, bt 0, bt 0, bt 0, bt 0, bt 0, bt 0, bt 0, bt 0, bt 0, bt 0, bt 0, bt 0, bt 0, bt 0, bt 0, bt 0, bt 0, bt 0, bt 0, bt 0, bt 0, bt 0, bt 0, bt 0, bt 0, bt 0, bt 0, bt 0, bt 0, bt 0, bt 0, bt 0, bt 0, bt 0, bt 0, bt 0, bt 0, bt 0, bt 0, bt 0, bt 0, bt 0, bt 0, bt 0, bt 0, bt 0, bt 0, bt 0, bt 0, bt 0, bt 0, bt 0, bt 0, bt 64]), (.agg ⟨[wt 1763576936, wt 4172572171, wt 1130699858, wt 3178211009, wt 2401790119, wt 2265295409, wt 1122481973, wt 285752896]⟩))
theorem blk1_ok : tab2Row E0 (nat_lit 5000) 368 blk1 = true := by kernel_rfl
noncomputable def blk2 : (Value × List Value) × Value := (((.agg ⟨[wt 1779033703, wt 3144134277, wt 1013904242, wt 2773480762, wt 1359893119, wt 2600822924, wt 528734635, wt 1541459225]⟩), [bt 0, bt 2, bt 8, bt 2, bt 1, bt 0, bt 1, bt 97, bt 4, bt 0, bt 0, bt 8, bt 2, bt 1, bt 0, bt 1, bt 98, bt 4, bt 0, bt 0, bt 128, bt 0, bt 0, bt 0, bt 0, bt 0, bt 0, bt 0, bt 0, bt 0, bt 0, bt 0, bt 0, bt 0, bt 0, bt 0, bt 0, bt 0, bt 0, bt 0, bt 0, bt 0, bt 0, bt 0, bt 0, bt 0, bt 0, bt 0, bt 0, bt 0, bt 0, bt 0, bt 0, bt 0, bt 0, bt 0, bt 0, bt 0, bt 0, bt 0, bt 0, bt 0, bt 0, bt 160]), (.agg ⟨[wt 3325524701, wt 950374117, wt 3362327880, wt 2129682077, wt 814779680, wt 3237413806, wt 3482261977, wt 1625974500]⟩))
theorem blk2_ok : tab2Row E0 (nat_lit 5000) 368 blk2 = true := by kernel_rfl
noncomputable def blk3 : (Value × List Value) × Value := (((.agg ⟨[wt 1779033703, wt 3144134277, wt 1013904242, wt 2773480762, wt 1359893119, wt 2600822924, wt 528734635, wt 1541459225]⟩), [bt 0, bt 2, bt 0, bt 0, bt 1, bt 1, bt 97, bt 0, bt 1, bt 97, bt 128, bt 0, bt 0, bt 0, bt 0, bt 0, bt 0, bt 0, bt 0, bt 0, bt 0, bt 0, bt 0, bt 0, bt 0, bt 0, bt 0, bt 0, bt 0, bt 0, bt 0, bt 0, bt 0, bt 0, bt 0, bt 0, bt 0, bt 0, bt 0, bt 0, bt 0, bt 0, bt 0, bt 0, bt 0, bt 0, bt 0, bt 0, bt 0, bt 0, bt 0, bt 0, bt 0, bt 0, bt 0, bt 0, bt 0, bt 0, bt 0, bt 0, bt 0, bt 0, bt 0, bt 80]), (.agg ⟨[wt 290949101, wt 3262893952, wt 3450661333, wt 2290060708, wt 3526464559, wt 2155139694, wt 2148942905, wt 3036987245]⟩))
theorem blk3_ok : tab2Row E0 (nat_lit 5000) 368 blk3 = true := by kernel_rfl
noncomputable def blk4 : (Value × List Value) × Value := (((.agg ⟨[wt 1779033703, wt 3144134277, wt 1013904242, wt 2773480762, wt 1359893119, wt 2600822924, wt 528734635, wt 1541459225]⟩), [bt 0, bt 2, bt 0, bt 0, bt 1, bt 1, bt 98, bt 0, bt 1, bt 98, bt 128, bt 0, bt 0, bt 0, bt 0, bt 0, bt 0, bt 0, bt 0, bt 0, bt 0, bt 0, bt 0, bt 0, bt 0, bt 0, bt 0, bt 0, bt 0, bt 0, bt 0, bt 0, bt 0, bt 0, bt 0, bt 0, bt 0, bt 0, bt 0, bt 0, bt 0, bt 0, bt 0, bt 0, bt 0, bt 0, bt 0, bt 0, bt 0, bt 0, bt 0, bt 0, bt 0, bt 0, bt 0, bt 0, bt 0, bt 0, bt 0, bt 0, bt 0, bt 0, bt 0, bt 80]), (.agg ⟨[wt 1076592027, wt 517289972, wt 1014854479, wt 3093878451, wt 561247719, wt 3509740763, wt 3800649727, wt 882148922]⟩))
theorem blk4_ok : tab2Row E0 (nat_lit 5000) 368 blk4 = true := by kernel_rfl
noncomputable def blk5 : (Value × List Value) × Value := (((.agg ⟨[wt 1779033703, wt 3144134277, wt 1013904242, wt 2773480762, wt 1359893119, wt 2600822924, wt 528734635, wt 1541459225]⟩), [bt 0, bt 2, bt 10, bt 0, bt 2, bt 0, bt 0, bt 1, bt 1, bt 97, bt 0, bt 1, bt 97, bt 10, bt 0, bt 2, bt 0, bt 0, bt 1, bt 1, bt 98, bt 0, bt 1, bt 98, bt 128, bt 0, bt 0, bt 0, bt 0, bt 0, bt 0, bt 0, bt 0, bt 0, bt 0, bt 0, bt 0, bt 0, bt 0, bt 0, bt 0, bt 0, bt 0, bt 0, bt 0, bt 0, bt 0, bt 0, bt 0, bt 0, bt 0, bt 0, bt 0, bt 0, bt 0, bt 0, bt 0, bt 0, bt 0, bt 0, bt 0, bt 0, bt 0, bt 192]), (.agg ⟨[wt 1565052652, wt 3708939507, wt 894557595, wt 3798363721, wt 3875972294, wt 3226840908, wt 3964703088, wt 2425111521]⟩))
theorem blk5_ok : tab2Row E0 (nat_lit 5000) 368 blk5 = true := by kernel_rfl
noncomputable def blk6 : (Value × List Value) × Value := (((.agg ⟨[wt 1779033703, wt 3144134277, wt 1013904242, wt 2773480762, wt 1359893119, wt 2600822924, wt 528734635, wt 1541459225]⟩), [bt 0, bt 1, bt 8, bt 2, bt 1, bt 0, bt 1, bt 97, bt 4, bt 0, bt 0, bt 128, bt 0, bt 0, bt 0, bt 0, bt 0, bt 0, bt 0, bt 0, bt 0, bt 0, bt 0, bt 0, bt 0, bt 0, bt 0, bt 0, bt 0, bt 0, bt 0, bt 0, bt 0, bt 0, bt 0, bt 0, bt 0, bt 0, bt 0, bt 0, bt 0, bt 0, bt 0, bt 0, bt 0, bt 0, bt 0, bt 0, bt 0, bt 0, bt 0, bt 0, bt 0, bt 0, bt 0, bt 0, bt 0, bt 0, bt 0, bt 0, bt 0, bt 0, bt 0, bt 88]), (.agg ⟨[wt 152543584, wt 3529333786, wt 2151905463, wt 3661382325, wt 659854721, wt 1153330251, wt 380422656, wt 227027654]⟩))
theorem blk6_ok : tab2Row E0 (nat_lit 5000) 368 blk6 = true := by kernel_rfl
noncomputable def blk7 : (Value × List Value) × Value := (((.agg ⟨[wt 1779033703, wt 3144134277, wt 1013904242, wt 2773480762, wt 1359893119, wt 2600822924, wt 528734635, wt 1541459225]⟩), [bt 0, bt 1, bt 10, bt 0, bt 2, bt 0, bt 0, bt 1, bt 1, bt 97, bt 0, bt 1, bt 97, bt 128, bt 0, bt 0, bt 0, bt 0, bt 0, bt 0, bt 0, bt 0, bt 0, bt 0, bt 0, bt 0, bt 0, bt 0, bt 0, bt 0, bt 0, bt 0, bt 0, bt 0, bt 0, bt 0, bt 0, bt 0, bt 0, bt 0, bt 0, bt 0, bt 0, bt 0, bt 0, bt 0, bt 0, bt 0, bt 0, bt 0, bt 0, bt 0, bt 0, bt 0, bt 0, bt 0, bt 0, bt 0, bt 0, bt 0, bt 0, bt 0, bt 0, bt 104]), (.agg ⟨[wt 4097394279, wt 3979329009, wt 4134596, wt 1743181882, wt 3918587358, wt 4015069838, wt 262311226, wt 1049749646]⟩))
theorem blk7_ok : tab2Row E0 (nat_lit 5000) 368 blk7 = true := by kernel_rfl
noncomputable def blkTab : List ((Value × List Value) × Value) := [blk0, blk1, blk2, blk3, blk4, blk5, blk6, blk7]
theorem blkTab_ok : ∀ e ∈ blkTab, tab2Row E0 (nat_lit 5000) 368 e = true := by
  intro e he
  unfold blkTab at he
  rcases List.mem_cons.1 he with rfl | he
  · exact blk0_ok
  rcases List.mem_cons.1 he with rfl | he
  · exact blk1_ok
  rcases List.mem_cons.1 he with rfl | he
  · exact blk2_ok
  rcases List.mem_cons.1 he with rfl | he
  · exact blk3_ok
  rcases List.mem_cons.1 he with rfl | he
  · exact blk4_ok
  rcases List.mem_cons.1 he with rfl | he
  · exact blk5_ok
  rcases List.mem_cons.1 he with rfl | he
  · exact blk6_ok
  rcases List.mem_cons.1 he with rfl | he
  · exact blk7_ok
  cases he
noncomputable def E1 : Env := ⟨tab.get, fun n => Bool.rec (motive := fun _ => Option Summ) none (some (tab2Sum blkTab)) (Nat.beq n 368), cMethod Tryz.prog, cNilOk Tryz.prog⟩
theorem E1_ok (B : Nat) : EnvOK Tryz.prog B E1 := by
  refine ⟨fun f k h => Tr.allP_get tab_ok f k h, rfl, rfl, fun f s h => ?_⟩
  replace h : (Bool.rec (motive := fun _ => Option Summ) none (some (tab2Sum blkTab)) (Nat.beq f 368)) = some s := h
  cases hb : Nat.beq f 368 with
  | false => rw [hb] at h; cases h
  | true =>
    rw [hb] at h
    cases h
    rw [beq_iff] at hb
    subst hb
    exact fun ι H w args args' v H' s hr hv => tab2_sound mixed (E0_ok B) (nat_lit 5000) 368 blkTab_ok s hr hv
noncomputable def row0 : List Value × Value := ([bt 2, bt 1, bt 0, bt 1, bt 97, bt 4, bt 0, bt 0], (.agg ⟨[bt 117, bt 50, bt 32, bt 134, bt 84, bt 65, bt 219, bt 109, bt 214, bt 105, bt 60, bt 247, bt 123, bt 67, bt 130, bt 179, bt 124, bt 16, bt 181, bt 8, bt 36, bt 15, bt 141, bt 56, bt 100, bt 216, bt 164, bt 209, bt 190, bt 87, bt 80, bt 46]⟩))
theorem row0_ok : tabRow E1 (nat_lit 5000) 192 row0 = true := by kernel_rfl
noncomputable def row1 : List Value × Value := ([bt 2, bt 1, bt 0, bt 1, bt 98, bt 4, bt 0, bt 0], (.agg ⟨[bt 105, bt 30, bt 12, bt 104, bt 248, bt 180, bt 102, bt 11, bt 67, bt 101, bt 28, bt 82, bt 189, bt 111, bt 166, bt 193, bt 143, bt 40, bt 104, bt 167, bt 135, bt 5, bt 170, bt 49, bt 66, bt 231, bt 183, bt 53, bt 17, bt 8, bt 62, bt 64]⟩))
theorem row1_ok : tabRow E1 (nat_lit 5000) 192 row1 = true := by kernel_rfl
noncomputable def row2 : List Value × Value := ([bt 0, bt 2, bt 8, bt 2, bt 1, bt 0, bt 1, bt 97, bt 4, bt 0, bt 0, bt 8, bt 2, bt 1, bt 0, bt 1, bt 98, bt 4, bt 0, bt 0], (.agg ⟨[bt 198, bt 55, bt 122, bt 221, bt 56, bt 165, bt 142, bt 229, bt 200, bt 105, bt 13, bt 72, bt 126, bt 240, bt 94, bt 157, bt 48, bt 144, bt 141, bt 32, bt 192, bt 247, bt 3, bt 174, bt 207, bt 143, bt 25, bt 217, bt 96, bt 234, bt 102, bt 228]⟩))
theorem row2_ok : tabRow E1 (nat_lit 5000) 192 row2 = true := by kernel_rfl
noncomputable def row3 : List Value × Value := ([bt 0, bt 2, bt 0, bt 0, bt 1, bt 1, bt 97, bt 0, bt 1, bt 97], (.agg ⟨[bt 17, bt 87, bt 135, bt 237, bt 194, bt 123, bt 207, bt 128, bt 205, bt 172, bt 233, bt 213, bt 136, bt 127, bt 141, bt 164, bt 210, bt 49, bt 148, bt 47, bt 128, bt 116, bt 210, bt 110, bt 128, bt 22, bt 68, bt 57, bt 181, bt 4, bt 191, bt 109]⟩))
theorem row3_ok : tabRow E1 (nat_lit 5000) 192 row3 = true := by kernel_rfl
noncomputable def row4 : List Value × Value := ([bt 0, bt 2, bt 0, bt 0, bt 1, bt 1, bt 98, bt 0, bt 1, bt 98], (.agg ⟨[bt 64, bt 43, bt 125, bt 155, bt 30, bt 213, bt 55, bt 244, bt 60, bt 125, bt 115, bt 79, bt 184, bt 104, bt 214, bt 179, bt 33, bt 115, bt 245, bt 231, bt 209, bt 50, bt 100, bt 219, bt 226, bt 137, bt 79, bt 255, bt 52, bt 148, bt 134, bt 58]⟩))
theorem row4_ok : tabRow E1 (nat_lit 5000) 192 row4 = true := by kernel_rfl
noncomputable def row5 : List Value × Value := ([bt 0, bt 2, bt 10, bt 0, bt 2, bt 0, bt 0, bt 1, bt 1, bt 97, bt 0, bt 1, bt 97, bt 10, bt 0, bt 2, bt 0, bt 0, bt 1, bt 1, bt 98, bt 0, bt 1, bt 98], (.agg ⟨[bt 93, bt 72, bt 206, bt 236, bt 221, bt 17, bt 236, bt 243, bt 53, bt 81, bt 221, bt 155, bt 226, bt 102, bt 110, bt 73, bt 231, bt 6, bt 164, bt 198, bt 192, bt 85, bt 175, bt 76, bt 236, bt 80, bt 145, bt 112, bt 144, bt 140, bt 67, bt 225]⟩))
theorem row5_ok : tabRow E1 (nat_lit 5000) 192 row5 = true := by kernel_rfl
noncomputable def row6 : List Value × Value := ([bt 0, bt 1, bt 8, bt 2, bt 1, bt 0, bt 1, bt 97, bt 4, bt 0, bt 0], (.agg ⟨[bt 9, bt 23, bt 161, bt 96, bt 210, bt 93, bt 92, bt 26, bt 128, bt 67, bt 120, bt 183, bt 218, bt 60, bt 66, bt 181, bt 39, bt 84, bt 149, bt 129, bt 68, bt 190, bt 108, bt 75, bt 22, bt 172, bt 202, bt 0, bt 13, bt 136, bt 42, bt 198]⟩))
theorem row6_ok : tabRow E1 (nat_lit 5000) 192 row6 = true := by kernel_rfl
noncomputable def row7 : List Value × Value := ([bt 0, bt 1, bt 10, bt 0, bt 2, bt 0, bt 0, bt 1, bt 1, bt 97, bt 0, bt 1, bt 97], (.agg ⟨[bt 244, bt 57, bt 70, bt 103, bt 237, bt 47, bt 189, bt 241, bt 0, bt 63, bt 22, bt 196, bt 103, bt 230, bt 216, bt 58, bt 233, bt 144, bt 229, bt 222, bt 239, bt 81, bt 26, bt 142, bt 15, bt 162, bt 141, bt 58, bt 62, bt 145, bt 232, bt 142]⟩))
theorem row7_ok : tabRow E1 (nat_lit 5000) 192 row7 = true := by kernel_rfl
noncomputable def hashTab : List (List Value × Value) := [row0, row1, row2, row3, row4, row5, row6, row7]
theorem hashTab_ok : ∀ e ∈ hashTab, tabRow E1 (nat_lit 5000) 192 e = true := by
  intro e he
  unfold hashTab at he
  rcases List.mem_cons.1 he with rfl | he
  · exact row0_ok
  rcases List.mem_cons.1 he with rfl | he
  · exact row1_ok
  rcases List.mem_cons.1 he with rfl | he
  · exact row2_ok
  rcases List.mem_cons.1 he with rfl | he
  · exact row3_ok
  rcases List.mem_cons.1 he with rfl | he
  · exact row4_ok
  rcases List.mem_cons.1 he with rfl | he
  · exact row5_ok
  rcases List.mem_cons.1 he with rfl | he
  · exact row6_ok
  rcases List.mem_cons.1 he with rfl | he
  · exact row7_ok
  cases he
noncomputable def E : Env := ⟨tab.get, fun n => Bool.rec (motive := fun _ => Option Summ) none (some (tabSum hashTab)) (Nat.beq n 192), cMethod Tryz.prog, cNilOk Tryz.prog⟩
theorem E_ok (B : Nat) : EnvOK Tryz.prog B E := by
  refine ⟨fun f k h => Tr.allP_get tab_ok f k h, rfl, rfl, fun f s h => ?_⟩
  replace h : (Bool.rec (motive := fun _ => Option Summ) none (some (tabSum hashTab)) (Nat.beq f 192)) = some s := h
  cases hb : Nat.beq f 192 with
  | false => rw [hb] at h; cases h
  | true =>
    rw [hb] at h
    cases h
    rw [beq_iff] at hb
    subst hb
    exact fun ι H w args args' v H' s hr hv => tab_sound mixed (E1_ok B) (nat_lit 5000) 192 hashTab_ok s hr hv
def zs60 : List Value := [(.slice none (nat_lit 0) (nat_lit 0))]
theorem ins60a : fnOf Tryz.prog 60 = some (insB (nat_lit 1) zs60 (nat_lit 108) (nat_lit 109)) := by kernel_rfl
theorem ins60b : fnOf Tryz.prog 109 = some (rotR (nat_lit 166)) := by kernel_rfl
theorem ins60c : fnOf Tryz.prog 166 = some (rotL (nat_lit 1) (nat_lit 262)) := by kernel_rfl
theorem ins60d : fnOf Tryz.prog 262 = some (revB (nat_lit 1) lkLoad1) := by kernel_rfl
theorem ins60e : Extern.find Tryz.f108 = some (Extern.SlicesOverlaps.overlaps Tryz.f108.params Tryz.f108.resultTypes) := by kernel_rfl
theorem ins60f : Extern.findNext Tryz.f108 = none := by kernel_rfl
theorem ins60g : Tryz.prog.underlying 54 = some (.slice 43) := by kernel_rfl
theorem ins60h : okT Tryz.prog 43 = true := by kernel_rfl
theorem ins60 : InsFn Tryz.prog (nat_lit 1) 60 := ⟨by decide, zs60, _, _, _, _, lkLoad1, by kernel_rfl, ld1_ok, ins60a, ins60b, ins60c, ins60d, by decide, ⟨_, _, _, 54, 43, Tryz.func108, by kernel_rfl, by kernel_rfl, ins60f, ins60e, by kernel_rfl, ins60g, ins60h⟩⟩
def zs203 : List Value := [(.string ⟨⟨[]⟩⟩), (.int .u8 (.ofNat (nat_lit 0))), (.int .u8 (.ofNat (nat_lit 0))), (.int .u8 (.ofNat (nat_lit 0))), (.int .u8 (.ofNat (nat_lit 0))), (.int .u8 (.ofNat (nat_lit 0))), (.int .u8 (.ofNat (nat_lit 0))), (.int .u8 (.ofNat (nat_lit 0))), (.int .u8 (.ofNat (nat_lit 0))), (.int .u8 (.ofNat (nat_lit 0))), (.int .u8 (.ofNat (nat_lit 0))), (.int .u8 (.ofNat (nat_lit 0))), (.int .u8 (.ofNat (nat_lit 0))), (.int .u8 (.ofNat (nat_lit 0))), (.int .u8 (.ofNat (nat_lit 0))), (.int .u8 (.ofNat (nat_lit 0))), (.int .u8 (.ofNat (nat_lit 0))), (.int .u8 (.ofNat (nat_lit 0))), (.int .u8 (.ofNat (nat_lit 0))), (.int .u8 (.ofNat (nat_lit 0))), (.int .u8 (.ofNat (nat_lit 0))), (.int .u8 (.ofNat (nat_lit 0))), (.int .u8 (.ofNat (nat_lit 0))), (.int .u8 (.ofNat (nat_lit 0))), (.int .u8 (.ofNat (nat_lit 0))), (.int .u8 (.ofNat (nat_lit 0))), (.int .u8 (.ofNat (nat_lit 0))), (.int .u8 (.ofNat (nat_lit 0))), (.int .u8 (.ofNat (nat_lit 0))), (.int .u8 (.ofNat (nat_lit 0))), (.int .u8 (.ofNat (nat_lit 0))), (.int .u8 (.ofNat (nat_lit 0))), (.int .u8 (.ofNat (nat_lit 0))), (.int .u8 (.ofNat (nat_lit 0))), (.int .u8 (.ofNat (nat_lit 0))), (.int .u8 (.ofNat (nat_lit 0))), (.int .u8 (.ofNat (nat_lit 0))), (.int .u8 (.ofNat (nat_lit 0))), (.int .u8 (.ofNat (nat_lit 0))), (.int .u8 (.ofNat (nat_lit 0))), (.int .u8 (.ofNat (nat_lit 0))), (.int .u8 (.ofNat (nat_lit 0))), (.int .u8 (.ofNat (nat_lit 0))), (.int .u8 (.ofNat (nat_lit 0))), (.int .u8 (.ofNat (nat_lit 0))), (.int .u8 (.ofNat (nat_lit 0))), (.int .u8 (.ofNat (nat_lit 0))), (.int .u8 (.ofNat (nat_lit 0))), (.int .u8 (.ofNat (nat_lit 0))), (.int .u8 (.ofNat (nat_lit 0))), (.int .u8 (.ofNat (nat_lit 0))), (.int .u8 (.ofNat (nat_lit 0))), (.int .u8 (.ofNat (nat_lit 0))), (.int .u8 (.ofNat (nat_lit 0))), (.int .u8 (.ofNat (nat_lit 0))), (.int .u8 (.ofNat (nat_lit 0))), (.int .u8 (.ofNat (nat_lit 0))), (.int .u8 (.ofNat (nat_lit 0))), (.int .u8 (.ofNat (nat_lit 0))), (.int .u8 (.ofNat (nat_lit 0))), (.int .u8 (.ofNat (nat_lit 0))), (.int .u8 (.ofNat (nat_lit 0))), (.int .u8 (.ofNat (nat_lit 0))), (.int .u8 (.ofNat (nat_lit 0))), (.int .u8 (.ofNat (nat_lit 0))), (.int .i64 (.ofNat (nat_lit 0))), (.slice none (nat_lit 0) (nat_lit 0))]
theorem ins203a : fnOf Tryz.prog 203 = some (insB (nat_lit 67) zs203 (nat_lit 309) (nat_lit 310)) := by kernel_rfl
theorem ins203b : fnOf Tryz.prog 310 = some (rotR (nat_lit 374)) := by kernel_rfl
theorem ins203c : fnOf Tryz.prog 374 = some (rotL (nat_lit 67) (nat_lit 427)) := by kernel_rfl
theorem ins203d : fnOf Tryz.prog 427 = some (revB (nat_lit 67) (lkLoadN (nat_lit 67))) := by kernel_rfl
theorem ins203e : Extern.find Tryz.f309 = some (Extern.SlicesOverlaps.overlaps Tryz.f309.params Tryz.f309.resultTypes) := by kernel_rfl
theorem ins203f : Extern.findNext Tryz.f309 = none := by kernel_rfl
theorem ins203g : Tryz.prog.underlying 85 = some (.slice 81) := by kernel_rfl
theorem ins203h : okT Tryz.prog 81 = true := by kernel_rfl
theorem ins203 : InsFn Tryz.prog (nat_lit 67) 203 := ⟨by decide, zs203, _, _, _, _, (lkLoadN (nat_lit 67)), by kernel_rfl, (ldN_ok (nat_lit 67)), ins203a, ins203b, ins203c, ins203d, by decide, ⟨_, _, _, 85, 81, Tryz.func309, by kernel_rfl, by kernel_rfl, ins203f, ins203e, by kernel_rfl, ins203g, ins203h⟩⟩
def zs449 : List Value := [(.int .i64 (.ofNat (nat_lit 0))), (.int .i64 (.ofNat (nat_lit 0)))]
theorem ins449a : fnOf Tryz.prog 449 = some (insB (nat_lit 2) zs449 (nat_lit 460) (nat_lit 461)) := by kernel_rfl
theorem ins449b : fnOf Tryz.prog 461 = some (rotR (nat_lit 465)) := by kernel_rfl
theorem ins449c : fnOf Tryz.prog 465 = some (rotL (nat_lit 2) (nat_lit 466)) := by kernel_rfl
theorem ins449d : fnOf Tryz.prog 466 = some (revB (nat_lit 2) (lkLoadN (nat_lit 2))) := by kernel_rfl
theorem ins449e : Extern.find Tryz.f460 = some (Extern.SlicesOverlaps.overlaps Tryz.f460.params Tryz.f460.resultTypes) := by kernel_rfl
theorem ins449f : Extern.findNext Tryz.f460 = none := by kernel_rfl
theorem ins449g : Tryz.prog.underlying 521 = some (.slice 579) := by kernel_rfl
theorem ins449h : okT Tryz.prog 579 = true := by kernel_rfl
theorem ins449 : InsFn Tryz.prog (nat_lit 2) 449 := ⟨by decide, zs449, _, _, _, _, (lkLoadN (nat_lit 2)), by kernel_rfl, (ldN_ok (nat_lit 2)), ins449a, ins449b, ins449c, ins449d, by decide, ⟨_, _, _, 521, 579, Tryz.func460, by kernel_rfl, by kernel_rfl, ins449f, ins449e, by kernel_rfl, ins449g, ins449h⟩⟩
noncomputable def EP : Env := ((((((E.add 362 cmpSum).add 171 cmpSum).add 459 idxSum).add 60 (insSum (nat_lit 1))).add 203 (insSum (nat_lit 67))).add 449 (insSum (nat_lit 2)))
theorem EP_ok (B : Nat) : EnvOK Tryz.prog B EP := (((((((E_ok B).add 362 cmpSum fun ι H w args args' v H' s hr hv => cmp_sound Tryz.func362 (by kernel_rfl) (by kernel_rfl) (by kernel_rfl) (by kernel_rfl) s hr hv).add 171 cmpSum fun ι H w args args' v H' s hr hv => cmp_sound Tryz.func171 (by kernel_rfl) (by kernel_rfl) (by kernel_rfl) (by kernel_rfl) s hr hv).add 459 idxSum fun ι H w args args' v H' s hr hv => idx_sound Tryz.func459 (by kernel_rfl) (by kernel_rfl) (by kernel_rfl) (by kernel_rfl) s hr hv).add 60 (insSum (nat_lit 1)) fun ι H w args args' v H' s hr hv => ins_sound mixed ins60 s hr hv).add 203 (insSum (nat_lit 67)) fun ι H w args args' v H' s hr hv => ins_sound mixed ins203 s hr hv).add 449 (insSum (nat_lit 2)) fun ι H w args args' v H' s hr hv => ins_sound mixed ins449 s hr hv)
noncomputable def E3 : Env := (((EP.add 96 (pureSum EP (nat_lit 5000) (nat_lit 96) (nat_lit 3))).add 159 (pureSum EP (nat_lit 5000) (nat_lit 159) (nat_lit 2))).add 94 (pureSum EP (nat_lit 5000) (nat_lit 94) (nat_lit 1)))
theorem E3_ok (B : Nat) : EnvOK Tryz.prog B E3 := ((((EP_ok B).add 96 (pureSum EP (nat_lit 5000) (nat_lit 96) (nat_lit 3)) fun ι H w args args' v H' s hr hv => pure_sound mixed (EP_ok B) (nat_lit 5000) (nat_lit 96) (nat_lit 3) s hr hv).add 159 (pureSum EP (nat_lit 5000) (nat_lit 159) (nat_lit 2)) fun ι H w args args' v H' s hr hv => pure_sound mixed (EP_ok B) (nat_lit 5000) (nat_lit 159) (nat_lit 2) s hr hv).add 94 (pureSum EP (nat_lit 5000) (nat_lit 94) (nat_lit 1)) fun ι H w args args' v H' s hr hv => pure_sound mixed (EP_ok B) (nat_lit 5000) (nat_lit 94) (nat_lit 1) s hr hv)
end Go.Proofs.YtfcicokigdebpaaGreatDoor.Eng
