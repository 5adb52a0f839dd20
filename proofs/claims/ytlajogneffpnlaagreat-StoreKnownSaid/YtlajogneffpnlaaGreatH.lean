/-
  What the digest of each byte string is that the law's call digests: a run of the program's own digest. No condition.
-/
import Derived.Test.YtlajogneffpnlaaGreatT
namespace Go.Proofs.YtlajogneffpnlaaGreat.Eng
open Go Go.Eng
set_option linter.unusedVariables false
set_option maxRecDepth 100000
def bt (n : Nat) : Value := .int .u8 (.ofNat n)
def wt (n : Nat) : Value := .int .u32 (.ofNat n)
noncomputable def blk0 : (Value × List Value) × Value := (((.agg ⟨[wt 1779033703, wt 3144134277, wt 1013904242, wt 2773480762, wt 1359893119, wt 2600822924, wt 528734635, wt 1541459225]⟩), [bt 97, bt 98, bt 128, bt 0, bt 0, bt 0, bt 0, bt 0, bt 0, bt 0, bt 0, bt 0, bt 0, bt 0, bt 0, bt 0, bt 0, bt 0, bt 0, bt 0, bt 0, bt 0, bt 0, bt 0, bt 0, bt 0, bt 0, bt 0, bt 0, bt 0, bt 0, bt 0, bt 0, bt 0, bt 0, bt 0, bt 0, bt 0, bt 0, bt 0, bt 0, bt 0, bt 0, bt 0, bt 0, bt 0, bt 0, bt 0, bt 0, bt 0, bt 0, bt 0, bt 0, bt 0, bt 0, bt 0, bt 0, bt 0, bt 0, bt 0, bt 0, bt 0, bt 0, bt 16]), (.agg ⟨[wt 4220395772, wt 776748836, wt 2355151771, wt 3595760577, wt 879925435, wt 2541456205, wt 1493416016, wt 1432487427]⟩))
theorem blk0_ok : tab2Row E0 (nat_lit 5000) 140 blk0 = true := by kernel_rfl
noncomputable def blk1 : (Value × List Value) × Value := (((.agg ⟨[wt 1779033703, wt 3144134277, wt 1013904242, wt 2773480762, wt 1359893119, wt 2600822924, wt 528734635, wt 1541459225]⟩), [bt 1, bt 251, bt 142, bt 32, bt 252, bt 46, bt 76, bt 63, bt 36, bt 140, bt 96, bt 195, bt 155, bt 214, bt 82, bt 243, bt 193, bt 52, bt 114, bt 152, bt 187, bt 151, bt 123, bt 139, bt 77, bt 89, bt 3, bt 184, bt 80, bt 85, bt 98, bt 6, bt 3, bt 2, bt 2, bt 128, bt 0, bt 0, bt 0, bt 0, bt 0, bt 0, bt 0, bt 0, bt 0, bt 0, bt 0, bt 0, bt 0, bt 0, bt 0, bt 0, bt 0, bt 0, bt 0, bt 0, bt 0, bt 0, bt 0, bt 0, bt 0, bt 0, bt 1, bt 24]), (.agg ⟨[wt 4080566498, wt 1142750029, wt 3070890675, wt 1302395763, wt 1297476292, wt 3167510774, wt 462920700, wt 2937284146]⟩))
theorem blk1_ok : tab2Row E0 (nat_lit 5000) 140 blk1 = true := by kernel_rfl
noncomputable def blk2 : (Value × List Value) × Value := (((.agg ⟨[wt 1779033703, wt 3144134277, wt 1013904242, wt 2773480762, wt 1359893119, wt 2600822924, wt 528734635, wt 1541459225]⟩), [bt 82, bt 67, bt 0, bt 0, bt 0, bt 0, bt 0, bt 0, bt 0, bt 1, bt 251, bt 142, bt 32, bt 252, bt 46, bt 76, bt 63, bt 36, bt 140, bt 96, bt 195, bt 155, bt 214, bt 82, bt 243, bt 193, bt 52, bt 114, bt 152, bt 187, bt 151, bt 123, bt 139, bt 77, bt 89, bt 3, bt 184, bt 80, bt 85, bt 98, bt 6, bt 3, bt 0, bt 0, bt 0, bt 3, bt 0, bt 0, bt 0, bt 35, bt 128, bt 0, bt 0, bt 0, bt 0, bt 0, bt 0, bt 0, bt 0, bt 0, bt 0, bt 0, bt 1, bt 144]), (.agg ⟨[wt 167696103, wt 284759383, wt 709562181, wt 313291830, wt 2918259453, wt 3911911868, wt 1896682719, wt 3724929947]⟩))
theorem blk2_ok : tab2Row E0 (nat_lit 5000) 140 blk2 = true := by kernel_rfl
noncomputable def blk3 : (Value × List Value) × Value := (((.agg ⟨[wt 1779033703, wt 3144134277, wt 1013904242, wt 2773480762, wt 1359893119, wt 2600822924, wt 528734635, wt 1541459225]⟩), [bt 0, bt 128, bt 0, bt 0, bt 0, bt 0, bt 0, bt 0, bt 0, bt 0, bt 0, bt 0, bt 0, bt 0, bt 0, bt 0, bt 0, bt 0, bt 0, bt 0, bt 0, bt 0, bt 0, bt 0, bt 0, bt 0, bt 0, bt 0, bt 0, bt 0, bt 0, bt 0, bt 0, bt 0, bt 0, bt 0, bt 0, bt 0, bt 0, bt 0, bt 0, bt 0, bt 0, bt 0, bt 0, bt 0, bt 0, bt 0, bt 0, bt 0, bt 0, bt 0, bt 0, bt 0, bt 0, bt 0, bt 0, bt 0, bt 0, bt 0, bt 0, bt 0, bt 0, bt 8]), (.agg ⟨[wt 1848904604, wt 4289952408, wt 2628076774, wt 3145206316, wt 2022710591, wt 3006740598, wt 2232525574, wt 397385757]⟩))
theorem blk3_ok : tab2Row E0 (nat_lit 5000) 140 blk3 = true := by kernel_rfl
noncomputable def blk4 : (Value × List Value) × Value := (((.agg ⟨[wt 1779033703, wt 3144134277, wt 1013904242, wt 2773480762, wt 1359893119, wt 2600822924, wt 528734635, wt 1541459225]⟩), [bt 82, bt 67, bt 0, bt 0, bt 0, bt 0, bt 0, bt 0, bt 0, bt 2, bt 0, bt 0, bt 0, bt 0, bt 0, bt 0, bt 0, bt 0, bt 0, bt 0, bt 0, bt 0, bt 0, bt 0, bt 0, bt 0, bt 0, bt 0, bt 0, bt 0, bt 0, bt 0, bt 0, bt 0, bt 0, bt 0, bt 0, bt 0, bt 0, bt 0, bt 0, bt 0, bt 0, bt 0, bt 0, bt 5, bt 0, bt 0, bt 0, bt 1, bt 128, bt 0, bt 0, bt 0, bt 0, bt 0, bt 0, bt 0, bt 0, bt 0, bt 0, bt 0, bt 1, bt 144]), (.agg ⟨[wt 3005419880, wt 150116086, wt 1431452969, wt 580357534, wt 2109368923, wt 702261504, wt 1919232361, wt 2626754620]⟩))
theorem blk4_ok : tab2Row E0 (nat_lit 5000) 140 blk4 = true := by kernel_rfl
noncomputable def blk5 : (Value × List Value) × Value := (((.agg ⟨[wt 1779033703, wt 3144134277, wt 1013904242, wt 2773480762, wt 1359893119, wt 2600822924, wt 528734635, wt 1541459225]⟩), [bt 0, bt 0, bt 0, bt 0, bt 0, bt 0, bt 0, bt 0, bt 0, bt 0, bt 0, bt 0, bt 0, bt 0, bt 0, bt 0, bt 0, bt 0, bt 0, bt 0, bt 0, bt 0, bt 0, bt 0, bt 0, bt 0, bt 0, bt 0, bt 0, bt 0, bt 0, bt 0, bt 0, bt 0, bt 0, bt 0, bt 0, bt 0, bt 0, bt 0, bt 0, bt 0, bt 0, bt 0, bt 0, bt 0, bt 0, bt 0, bt 0, bt 0, bt 0, bt 0, bt 0, bt 0, bt 0, bt 0, bt 0, bt 0, bt 0, bt 0, bt 0, bt 0, bt 0, bt 0]), (.agg ⟨[wt 3663108286, wt 398046313, wt 1647531929, wt 2006957770, wt 2363872401, wt 3235013187, wt 3137272298, wt 406301144]⟩))
theorem blk5_ok : tab2Row E0 (nat_lit 5000) 140 blk5 = true := by kernel_rfl
noncomputable def blk6 : (Value × List Value) × Value := (((.agg ⟨[wt 3663108286, wt 398046313, wt 1647531929, wt 2006957770, wt 2363872401, wt 3235013187, wt 3137272298, wt 406301144]⟩), [bt 0, bt 0, bt 0, bt 0, bt 0, bt 0, bt 0, bt 0, bt 0, bt 0, bt 0, bt 0, bt 0, bt 0, bt 0, bt 0, bt 0, bt 0, bt 0, bt 0, bt 0, bt 0, bt 0, bt 0, bt 0, bt 0, bt 0, bt 0, bt 0, bt 0, bt 0, bt 0, bt 0, bt 0, bt 0, bt 0, bt 0, bt 0, bt 0, bt 0, bt 0, bt 0, bt 0, bt 0, bt 0, bt 0, bt 0, bt 0, bt 0, bt 0, bt 0, bt 0, bt 0, bt 0, bt 0, bt 0, bt 0, bt 0, bt 0, bt 0, bt 0, bt 0, bt 0, bt 0]), (.agg ⟨[wt 1753322530, wt 427712285, wt 3703720195, wt 2823132263, wt 2087222896, wt 476200146, wt 2194495960, wt 3856981803]⟩))
theorem blk6_ok : tab2Row E0 (nat_lit 5000) 140 blk6 = true := by kernel_rfl
noncomputable def blk7 : (Value × List Value) × Value := (((.agg ⟨[wt 1753322530, wt 427712285, wt 3703720195, wt 2823132263, wt 2087222896, wt 476200146, wt 2194495960, wt 3856981803]⟩), [bt 0, bt 0, bt 0, bt 0, bt 0, bt 0, bt 0, bt 0, bt 0, bt 0, bt 0, bt 0, bt 0, bt 0, bt 0, bt 0, bt 0, bt 0, bt 0, bt 0, bt 0, bt 0, bt 0, bt 0, bt 0, bt 0, bt 0, bt 0, bt 0, bt 0, bt 0, bt 0, bt 0, bt 0, bt 0, bt 0, bt 0, bt 0, bt 0, bt 0, bt 0, bt 0, bt 0, bt 0, bt 0, bt 0, bt 0, bt 0, bt 0, bt 0, bt 0, bt 0, bt 0, bt 0, bt 0, bt 0, bt 0, bt 0, bt 0, bt 0, bt 0, bt 0, bt 0, bt 0]), (.agg ⟨[wt 3900125012, wt 916005393, wt 2860375374, wt 1682130322, wt 2832640372, wt 623511342, wt 345115685, wt 886862940]⟩))
theorem blk7_ok : tab2Row E0 (nat_lit 5000) 140 blk7 = true := by kernel_rfl
noncomputable def blk8 : (Value × List Value) × Value := (((.agg ⟨[wt 3900125012, wt 916005393, wt 2860375374, wt 1682130322, wt 2832640372, wt 623511342, wt 345115685, wt 886862940]⟩), [bt 0, bt 0, bt 0, bt 0, bt 0, bt 0, bt 0, bt 0, bt 0, bt 0, bt 0, bt 0, bt 0, bt 0, bt 0, bt 0, bt 0, bt 0, bt 0, bt 0, bt 0, bt 0, bt 0, bt 0, bt 0, bt 0, bt 0, bt 0, bt 0, bt 0, bt 0, bt 0, bt 0, bt 0, bt 0, bt 0, bt 0, bt 0, bt 0, bt 0, bt 0, bt 0, bt 0, bt 0, bt 0, bt 0, bt 0, bt 0, bt 0, bt 0, bt 0, bt 0, bt 0, bt 0, bt 0, bt 0, bt 0, bt 0, bt 0, bt 0, bt 0, bt 0, bt 0, bt 0]), (.agg ⟨[wt 2993125786, wt 3452828946, wt 2370146888, wt 3033738195, wt 1072247226, wt 1323180247, wt 1732583662, wt 3157828124]⟩))
theorem blk8_ok : tab2Row E0 (nat_lit 5000) 140 blk8 = true := by kernel_rfl
noncomputable def blk9 : (Value × List Value) × Value := (((.agg ⟨[wt 2993125786, wt 3452828946, wt 2370146888, wt 3033738195, wt 1072247226, wt 1323180247, wt 1732583662, wt 3157828124]⟩), [bt 0, bt 0, bt 0, bt 0, bt 0, bt 0, bt 0, bt 0, bt 0, bt 0, bt 0, bt 0, bt 0, bt 0, bt 0, bt 0, bt 0, bt 0, bt 0, bt 0, bt 0, bt 0, bt 0, bt 0, bt 0, bt 0, bt 0, bt 0, bt 0, bt 0, bt 0, bt 0, bt 0, bt 0, bt 0, bt 0, bt 0, bt 0, bt 0, bt 0, bt 0, bt 0, bt 0, bt 0, bt 0, bt 0, bt 0, bt 0, bt 0, bt 0, bt 0, bt 0, bt 0, bt 0, bt 0, bt 0, bt 0, bt 0, bt 0, bt 0, bt 0, bt 0, bt 0, bt 0]), (.agg ⟨[wt 1393315561, wt 2340768038, wt 2867260570, wt 175309520, wt 4246987417, wt 1247510459, wt 1844374029, wt 503653438]⟩))
theorem blk9_ok : tab2Row E0 (nat_lit 5000) 140 blk9 = true := by kernel_rfl
noncomputable def blk10 : (Value × List Value) × Value := (((.agg ⟨[wt 1393315561, wt 2340768038, wt 2867260570, wt 175309520, wt 4246987417, wt 1247510459, wt 1844374029, wt 503653438]⟩), [bt 0, bt 0, bt 0, bt 0, bt 0, bt 0, bt 0, bt 0, bt 0, bt 0, bt 0, bt 0, bt 0, bt 0, bt 0, bt 0, bt 0, bt 0, bt 0, bt 0, bt 0, bt 0, bt 0, bt 0, bt 0, bt 0, bt 0, bt 0, bt 0, bt 0, bt 0, bt 0, bt 0, bt 0, bt 0, bt 0, bt 0, bt 0, bt 0, bt 0, bt 0, bt 0, bt 0, bt 0, bt 0, bt 0, bt 0, bt 0, bt 0, bt 0, bt 0, bt 0, bt 0, bt 0, bt 0, bt 0, bt 0, bt 0, bt 0, bt 0, bt 0, bt 0, bt 0, bt 0]), (.agg ⟨[wt 1367272080, wt 97228137, wt 1854815597, wt 2747136529, wt 3842358982, wt 2688429335, wt 3318217311, wt 3536956336]⟩))
theorem blk10_ok : tab2Row E0 (nat_lit 5000) 140 blk10 = true := by kernel_rfl
noncomputable def blk11 : (Value × List Value) × Value := (((.agg ⟨[wt 1367272080, wt 97228137, wt 1854815597, wt 2747136529, wt 3842358982, wt 2688429335, wt 3318217311, wt 3536956336]⟩), [bt 0, bt 0, bt 0, bt 0, bt 0, bt 0, bt 0, bt 0, bt 0, bt 0, bt 0, bt 0, bt 0, bt 0, bt 0, bt 0, bt 0, bt 0, bt 0, bt 0, bt 0, bt 0, bt 0, bt 0, bt 0, bt 0, bt 0, bt 0, bt 0, bt 0, bt 0, bt 0, bt 0, bt 0, bt 0, bt 0, bt 0, bt 0, bt 0, bt 0, bt 0, bt 0, bt 0, bt 0, bt 0, bt 0, bt 0, bt 0, bt 0, bt 0, bt 0, bt 0, bt 0, bt 0, bt 0, bt 0, bt 0, bt 0, bt 0, bt 0, bt 0, bt 0, bt 0, bt 0]), (.agg ⟨[wt 4212416143, wt 3968180183, wt 932597574, wt 3082252192, wt 1507323862, wt 2026362764, wt 3900622437, wt 4177541431]⟩))
theorem blk11_ok : tab2Row E0 (nat_lit 5000) 140 blk11 = true := by kernel_rfl
noncomputable def blk12 : (Value × List Value) × Value := (((.agg ⟨[wt 4212416143, wt 3968180183, wt 932597574, wt 3082252192, wt 1507323862, wt 2026362764, wt 3900622437, wt 4177541431]⟩), [bt 0, bt 0, bt 0, bt 0, bt 0, bt 0, bt 0, bt 0, bt 0, bt 0, bt 0, bt 0, bt 0, bt 0, bt 0, bt 0, bt 0, bt 0, bt 0, bt 0, bt 0, bt 0, bt 0, bt 0, bt 0, bt 0, bt 0, bt 0, bt 0, bt 0, bt 0, bt 0, bt 0, bt 0, bt 0, bt 0, bt 0, bt 0, bt 0, bt 0, bt 0, bt 0, bt 0, bt 0, bt 0, bt 0, bt 0, bt 0, bt 0, bt 0, bt 0, bt 0, bt 0, bt 0, bt 0, bt 0, bt 0, bt 0, bt 0, bt 0, bt 0, bt 0, bt 0, bt 0]), (.agg ⟨[wt 218121175, wt 1626103620, wt 814375548, wt 715816623, wt 3701290803, wt 3159480871, wt 2470316789, wt 1090889717]⟩))
theorem blk12_ok : tab2Row E0 (nat_lit 5000) 140 blk12 = true := by kernel_rfl
noncomputable def blk13 : (Value × List Value) × Value := (((.agg ⟨[wt 218121175, wt 1626103620, wt 814375548, wt 715816623, wt 3701290803, wt 3159480871, wt 2470316789, wt 1090889717]⟩), [bt 0, bt 0, bt 0, bt 0, bt 0, bt 0, bt 0, bt 0, bt 0, bt 0, bt 0, bt 0, bt 0, bt 0, bt 0, bt 0, bt 0, bt 0, bt 0, bt 0, bt 0, bt 0, bt 0, bt 0, bt 0, bt 0, bt 0, bt 0, bt 0, bt 0, bt 0, bt 0, bt 0, bt 0, bt 0, bt 0, bt 0, bt 0, bt 0, bt 0, bt 0, bt 0, bt 0, bt 0, bt 0, bt 0, bt 0, bt 0, bt 0, bt 0, bt 0, bt 0, bt 0, bt 0, bt 0, bt 0, bt 0, bt 0, bt 0, bt 0, bt 0, bt 0, bt 0, bt 0]), (.agg ⟨[wt 3410532749, wt 1254102854, wt 1710727768, wt 2405688698, wt 3360857773, wt 4081261194, wt 1152508576, wt 2246757292]⟩))
theorem blk13_ok : tab2Row E0 (nat_lit 5000) 140 blk13 = true := by kernel_rfl
noncomputable def blk14 : (Value × List Value) × Value := (((.agg ⟨[wt 3410532749, wt 1254102854, wt 1710727768, wt 2405688698, wt 3360857773, wt 4081261194, wt 1152508576, wt 2246757292]⟩), [bt 0, bt 0, bt 0, bt 0, bt 0, bt 0, bt 0, bt 0, bt 0, bt 0, bt 0, bt 0, bt 0, bt 0, bt 0, bt 0, bt 0, bt 0, bt 0, bt 0, bt 0, bt 0, bt 0, bt 0, bt 0, bt 0, bt 0, bt 0, bt 0, bt 0, bt 0, bt 0, bt 0, bt 0, bt 0, bt 0, bt 0, bt 0, bt 0, bt 0, bt 0, bt 0, bt 0, bt 0, bt 0, bt 0, bt 0, bt 0, bt 0, bt 0, bt 0, bt 0, bt 0, bt 0, bt 0, bt 0, bt 0, bt 0, bt 0, bt 0, bt 0, bt 0, bt 0, bt 0]), (.agg ⟨[wt 371269166, wt 345932477, wt 958443852, wt 4128191921, wt 350455982, wt 948604387, wt 299438059, wt 2453092331]⟩))
theorem blk14_ok : tab2Row E0 (nat_lit 5000) 140 blk14 = true := by kernel_rfl
noncomputable def blk15 : (Value × List Value) × Value := (((.agg ⟨[wt 371269166, wt 345932477, wt 958443852, wt 4128191921, wt 350455982, wt 948604387, wt 299438059, wt 2453092331]⟩), [bt 0, bt 0, bt 0, bt 0, bt 0, bt 0, bt 0, bt 0, bt 0, bt 0, bt 0, bt 0, bt 0, bt 0, bt 0, bt 0, bt 0, bt 0, bt 0, bt 0, bt 0, bt 0, bt 0, bt 0, bt 0, bt 0, bt 0, bt 0, bt 0, bt 0, bt 0, bt 0, bt 0, bt 0, bt 0, bt 0, bt 0, bt 0, bt 0, bt 0, bt 0, bt 0, bt 0, bt 0, bt 0, bt 0, bt 0, bt 0, bt 0, bt 0, bt 0, bt 0, bt 0, bt 0, bt 0, bt 0, bt 0, bt 0, bt 0, bt 0, bt 0, bt 0, bt 0, bt 0]), (.agg ⟨[wt 4091055747, wt 1650154655, wt 3523181303, wt 2833644886, wt 119127052, wt 3624819, wt 1449009002, wt 4177678983]⟩))
theorem blk15_ok : tab2Row E0 (nat_lit 5000) 140 blk15 = true := by kernel_rfl
noncomputable def blk16 : (Value × List Value) × Value := (((.agg ⟨[wt 4091055747, wt 1650154655, wt 3523181303, wt 2833644886, wt 119127052, wt 3624819, wt 1449009002, wt 4177678983]⟩), [bt 0, bt 0, bt 0, bt 0, bt 0, bt 0, bt 0, bt 0, bt 0, bt 0, bt 0, bt 0, bt 0, bt 0, bt 0, bt 0, bt 0, bt 0, bt 0, bt 0, bt 0, bt 0, bt 0, bt 0, bt 0, bt 0, bt 0, bt 0, bt 0, bt 0, bt 0, bt 0, bt 0, bt 0, bt 0, bt 0, bt 0, bt 0, bt 0, bt 0, bt 0, bt 0, bt 0, bt 0, bt 0, bt 0, bt 0, bt 0, bt 0, bt 0, bt 0, bt 0, bt 0, bt 0, bt 0, bt 0, bt 0, bt 0, bt 0, bt 0, bt 0, bt 0, bt 0, bt 0]), (.agg ⟨[wt 1811515666, wt 1508972172, wt 1891048736, wt 1666946893, wt 642544927, wt 72600907, wt 3525338832, wt 77030882]⟩))
theorem blk16_ok : tab2Row E0 (nat_lit 5000) 140 blk16 = true := by kernel_rfl
noncomputable def blk17 : (Value × List Value) × Value := (((.agg ⟨[wt 1811515666, wt 1508972172, wt 1891048736, wt 1666946893, wt 642544927, wt 72600907, wt 3525338832, wt 77030882]⟩), [bt 0, bt 0, bt 0, bt 0, bt 0, bt 0, bt 0, bt 0, bt 0, bt 0, bt 0, bt 0, bt 0, bt 0, bt 0, bt 0, bt 0, bt 0, bt 0, bt 0, bt 0, bt 0, bt 0, bt 0, bt 0, bt 0, bt 0, bt 0, bt 0, bt 0, bt 0, bt 0, bt 0, bt 0, bt 0, bt 0, bt 0, bt 0, bt 0, bt 0, bt 0, bt 0, bt 0, bt 0, bt 0, bt 0, bt 0, bt 0, bt 0, bt 0, bt 0, bt 0, bt 0, bt 0, bt 0, bt 0, bt 0, bt 0, bt 0, bt 0, bt 0, bt 0, bt 0, bt 0]), (.agg ⟨[wt 455747040, wt 3771044356, wt 684468667, wt 3437475904, wt 154919244, wt 2911687560, wt 2922471713, wt 3049695653]⟩))
theorem blk17_ok : tab2Row E0 (nat_lit 5000) 140 blk17 = true := by kernel_rfl
noncomputable def blk18 : (Value × List Value) × Value := (((.agg ⟨[wt 455747040, wt 3771044356, wt 684468667, wt 3437475904, wt 154919244, wt 2911687560, wt 2922471713, wt 3049695653]⟩), [bt 0, bt 0, bt 0, bt 0, bt 0, bt 0, bt 0, bt 0, bt 0, bt 0, bt 0, bt 0, bt 0, bt 0, bt 0, bt 0, bt 0, bt 0, bt 0, bt 0, bt 0, bt 0, bt 0, bt 0, bt 0, bt 0, bt 0, bt 0, bt 0, bt 0, bt 0, bt 0, bt 0, bt 0, bt 0, bt 0, bt 0, bt 0, bt 0, bt 0, bt 0, bt 0, bt 0, bt 0, bt 0, bt 0, bt 0, bt 0, bt 0, bt 0, bt 0, bt 0, bt 0, bt 0, bt 0, bt 0, bt 0, bt 0, bt 0, bt 0, bt 0, bt 0, bt 0, bt 0]), (.agg ⟨[wt 3969926144, wt 2449254153, wt 351291030, wt 2040726224, wt 2884591269, wt 1723899749, wt 2979578201, wt 1470130375]⟩))
theorem blk18_ok : tab2Row E0 (nat_lit 5000) 140 blk18 = true := by kernel_rfl
noncomputable def blk19 : (Value × List Value) × Value := (((.agg ⟨[wt 3969926144, wt 2449254153, wt 351291030, wt 2040726224, wt 2884591269, wt 1723899749, wt 2979578201, wt 1470130375]⟩), [bt 0, bt 0, bt 0, bt 0, bt 0, bt 0, bt 0, bt 0, bt 0, bt 0, bt 0, bt 0, bt 0, bt 0, bt 0, bt 0, bt 0, bt 0, bt 0, bt 0, bt 0, bt 0, bt 0, bt 0, bt 0, bt 0, bt 0, bt 0, bt 0, bt 0, bt 0, bt 0, bt 0, bt 0, bt 0, bt 0, bt 0, bt 0, bt 0, bt 0, bt 0, bt 0, bt 0, bt 0, bt 0, bt 0, bt 0, bt 0, bt 0, bt 0, bt 0, bt 0, bt 0, bt 0, bt 0, bt 0, bt 0, bt 0, bt 0, bt 0, bt 0, bt 0, bt 0, bt 0]), (.agg ⟨[wt 3375184374, wt 2506191315, wt 2897525104, wt 3990036204, wt 3048977741, wt 448352038, wt 1385243716, wt 710576501]⟩))
theorem blk19_ok : tab2Row E0 (nat_lit 5000) 140 blk19 = true := by kernel_rfl
noncomputable def blk20 : (Value × List Value) × Value := (((.agg ⟨[wt 3375184374, wt 2506191315, wt 2897525104, wt 3990036204, wt 3048977741, wt 448352038, wt 1385243716, wt 710576501]⟩), [bt 0, bt 0, bt 0, bt 0, bt 0, bt 0, bt 0, bt 0, bt 0, bt 0, bt 0, bt 0, bt 0, bt 0, bt 0, bt 0, bt 0, bt 0, bt 0, bt 0, bt 0, bt 0, bt 0, bt 0, bt 0, bt 0, bt 0, bt 0, bt 0, bt 0, bt 0, bt 0, bt 0, bt 0, bt 0, bt 0, bt 0, bt 0, bt 0, bt 0, bt 128, bt 0, bt 0, bt 0, bt 0, bt 0, bt 0, bt 0, bt 0, bt 0, bt 0, bt 0, bt 0, bt 0, bt 0, bt 0, bt 0, bt 0, bt 0, bt 0, bt 0, bt 0, bt 31, bt 64]), (.agg ⟨[wt 1411071645, wt 2852762123, wt 4167017075, wt 3855340520, wt 25537102, wt 3264800613, wt 3683087403, wt 1880328787]⟩))
theorem blk20_ok : tab2Row E0 (nat_lit 5000) 140 blk20 = true := by kernel_rfl
noncomputable def blkTab : List ((Value × List Value) × Value) := [blk0, blk1, blk2, blk3, blk4, blk5, blk6, blk7, blk8, blk9, blk10, blk11, blk12, blk13, blk14, blk15, blk16, blk17, blk18, blk19, blk20]
theorem blkTab_ok : ∀ e ∈ blkTab, tab2Row E0 (nat_lit 5000) 140 e = true := by
  intro e he
  unfold blkTab at he
  rcases List.mem_cons.1 he with rfl | he
  · exact blk0_ok
  rcases List.mem_cons.1 he with rfl | he
  · exact blk1_ok
  rcases List.mem_cons.1 he with rfl | he
  · exact blk2_ok
  rcases List.mem_cons.1 he with rfl | he
  · exact blk3_ok
  rcases List.mem_cons.1 he with rfl | he
  · exact blk4_ok
  rcases List.mem_cons.1 he with rfl | he
  · exact blk5_ok
  rcases List.mem_cons.1 he with rfl | he
  · exact blk6_ok
  rcases List.mem_cons.1 he with rfl | he
  · exact blk7_ok
  rcases List.mem_cons.1 he with rfl | he
  · exact blk8_ok
  rcases List.mem_cons.1 he with rfl | he
  · exact blk9_ok
  rcases List.mem_cons.1 he with rfl | he
  · exact blk10_ok
  rcases List.mem_cons.1 he with rfl | he
  · exact blk11_ok
  rcases List.mem_cons.1 he with rfl | he
  · exact blk12_ok
  rcases List.mem_cons.1 he with rfl | he
  · exact blk13_ok
  rcases List.mem_cons.1 he with rfl | he
  · exact blk14_ok
  rcases List.mem_cons.1 he with rfl | he
  · exact blk15_ok
  rcases List.mem_cons.1 he with rfl | he
  · exact blk16_ok
  rcases List.mem_cons.1 he with rfl | he
  · exact blk17_ok
  rcases List.mem_cons.1 he with rfl | he
  · exact blk18_ok
  rcases List.mem_cons.1 he with rfl | he
  · exact blk19_ok
  rcases List.mem_cons.1 he with rfl | he
  · exact blk20_ok
  cases he
noncomputable def E1 : Env := ⟨tab.get, fun n => Bool.rec (motive := fun _ => Option Summ) none (some (tab2Sum blkTab)) (Nat.beq n 140), cMethod Tryz.prog, cNilOk Tryz.prog⟩
theorem E1_ok (B : Nat) : EnvOK Tryz.prog B E1 := by
  refine ⟨fun f k h => Tr.allP_get tab_ok f k h, rfl, rfl, fun f s h => ?_⟩
  replace h : (Bool.rec (motive := fun _ => Option Summ) none (some (tab2Sum blkTab)) (Nat.beq f 140)) = some s := h
  cases hb : Nat.beq f 140 with
  | false => rw [hb] at h; cases h
  | true =>
    rw [hb] at h
    cases h
    rw [beq_iff] at hb
    subst hb
    exact fun ι H w args args' v H' s hr hv => tab2_sound mixed (E0_ok B) (nat_lit 5000) 140 blkTab_ok s hr hv
noncomputable def row0 : List Value × Value := ([bt 97, bt 98], (.agg ⟨[bt 251, bt 142, bt 32, bt 252, bt 46, bt 76, bt 63, bt 36, bt 140, bt 96, bt 195, bt 155, bt 214, bt 82, bt 243, bt 193, bt 52, bt 114, bt 152, bt 187, bt 151, bt 123, bt 139, bt 77, bt 89, bt 3, bt 184, bt 80, bt 85, bt 98, bt 6, bt 3]⟩))
theorem row0_ok : tabRow E1 (nat_lit 5000) 20 row0 = true := by kernel_rfl
noncomputable def row1 : List Value × Value := ([bt 1, bt 251, bt 142, bt 32, bt 252, bt 46, bt 76, bt 63, bt 36, bt 140, bt 96, bt 195, bt 155, bt 214, bt 82, bt 243, bt 193, bt 52, bt 114, bt 152, bt 187, bt 151, bt 123, bt 139, bt 77, bt 89, bt 3, bt 184, bt 80, bt 85, bt 98, bt 6, bt 3, bt 2, bt 2], (.agg ⟨[bt 243, bt 56, bt 128, bt 226, bt 68, bt 28, bt 251, bt 77, bt 183, bt 10, bt 18, bt 179, bt 77, bt 160, bt 251, bt 115, bt 77, bt 85, bt 234, bt 196, bt 188, bt 204, bt 96, bt 246, bt 27, bt 151, bt 155, bt 252, bt 175, bt 19, bt 102, bt 50]⟩))
theorem row1_ok : tabRow E1 (nat_lit 5000) 20 row1 = true := by kernel_rfl
noncomputable def row2 : List Value × Value := ([bt 82, bt 67, bt 0, bt 0, bt 0, bt 0, bt 0, bt 0, bt 0, bt 1, bt 251, bt 142, bt 32, bt 252, bt 46, bt 76, bt 63, bt 36, bt 140, bt 96, bt 195, bt 155, bt 214, bt 82, bt 243, bt 193, bt 52, bt 114, bt 152, bt 187, bt 151, bt 123, bt 139, bt 77, bt 89, bt 3, bt 184, bt 80, bt 85, bt 98, bt 6, bt 3, bt 0, bt 0, bt 0, bt 3, bt 0, bt 0, bt 0, bt 35], (.agg ⟨[bt 9, bt 254, bt 214, bt 231, bt 16, bt 249, bt 21, bt 87, bt 42, bt 75, bt 15, bt 69, bt 18, bt 172, bt 116, bt 54, bt 173, bt 241, bt 26, bt 253, bt 233, bt 43, bt 9, bt 188, bt 113, bt 13, bt 20, bt 223, bt 222, bt 5, bt 235, bt 155]⟩))
theorem row2_ok : tabRow E1 (nat_lit 5000) 20 row2 = true := by kernel_rfl
noncomputable def row3 : List Value × Value := ([bt 0], (.agg ⟨[bt 110, bt 52, bt 11, bt 156, bt 255, bt 179, bt 122, bt 152, bt 156, bt 165, bt 68, bt 230, bt 187, bt 120, bt 10, bt 44, bt 120, bt 144, bt 29, bt 63, bt 179, bt 55, bt 56, bt 118, bt 133, bt 17, bt 163, bt 6, bt 23, bt 175, bt 160, bt 29]⟩))
theorem row3_ok : tabRow E1 (nat_lit 5000) 20 row3 = true := by kernel_rfl
noncomputable def row4 : List Value × Value := ([bt 82, bt 67, bt 0, bt 0, bt 0, bt 0, bt 0, bt 0, bt 0, bt 2, bt 0, bt 0, bt 0, bt 0, bt 0, bt 0, bt 0, bt 0, bt 0, bt 0, bt 0, bt 0, bt 0, bt 0, bt 0, bt 0, bt 0, bt 0, bt 0, bt 0, bt 0, bt 0, bt 0, bt 0, bt 0, bt 0, bt 0, bt 0, bt 0, bt 0, bt 0, bt 0, bt 0, bt 0, bt 0, bt 5, bt 0, bt 0, bt 0, bt 1], (.agg ⟨[bt 179, bt 35, bt 17, bt 104, bt 8, bt 242, bt 150, bt 246, bt 85, bt 82, bt 61, bt 41, bt 34, bt 151, bt 141, bt 158, bt 125, bt 186, bt 106, bt 91, bt 41, bt 219, bt 169, bt 0, bt 114, bt 101, bt 41, bt 105, bt 156, bt 145, bt 24, bt 60]⟩))
theorem row4_ok : tabRow E1 (nat_lit 5000) 20 row4 = true := by kernel_rfl
noncomputable def row5 : List Value × Value := ([bt 0, bt 0, bt 0, bt 0, bt 0, bt 0, bt 0, bt 0, bt 0, bt 0, bt 0, bt 0, bt 0, bt 0, bt 0, bt 0, bt 0, bt 0, bt 0, bt 0, bt 0, bt 0, bt 0, bt 0, bt 0, bt 0, bt 0, bt 0, bt 0, bt 0, bt 0, bt 0, bt 0, bt 0, bt 0, bt 0, bt 0, bt 0, bt 0, bt 0, bt 0, bt 0, bt 0, bt 0, bt 0, bt 0, bt 0, bt 0, bt 0, bt 0, bt 0, bt 0, bt 0, bt 0, bt 0, bt 0, bt 0, bt 0, bt 0, bt 0, bt 0, bt 0, bt 0, bt 0, bt 0, bt 0, bt 0, bt 0, bt 0, bt 0, bt 0, bt 0, bt 0, bt 0, bt 0, bt 0, bt 0, bt 0, bt 0, bt 0, bt 0, bt 0, bt 0, bt 0, bt 0, bt 0, bt 0, bt 0, bt 0, bt 0, bt 0, bt 0, bt 0, bt 0, bt 0, bt 0, bt 0, bt 0, bt 0, bt 0, bt 0, bt 0, bt 0, bt 0, bt 0, bt 0, bt 0, bt 0, bt 0, bt 0, bt 0, bt 0, bt 0, bt 0, bt 0, bt 0, bt 0, bt 0, bt 0, bt 0, bt 0, bt 0, bt 0, bt 0, bt 0, bt 0, bt 0, bt 0, bt 0, bt 0, bt 0, bt 0, bt 0, bt 0, bt 0, bt 0, bt 0, bt 0, bt 0, bt 0, bt 0, bt 0, bt 0, bt 0, bt 0, bt 0, bt 0, bt 0, bt 0, bt 0, bt 0, bt 0, bt 0, bt 0, bt 0, bt 0, bt 0, bt 0, bt 0, bt 0, bt 0, bt 0, bt 0, bt 0, bt 0, bt 0, bt 0, bt 0, bt 0, bt 0, bt 0, bt 0, bt 0, bt 0, bt 0, bt 0, bt 0, bt 0, bt 0, bt 0, bt 0, bt 0, bt 0, bt 0, bt 0, bt 0, bt 0, bt 0, bt 0, bt 0, bt 0, bt 0, bt 0, bt 0, bt 0, bt 0, bt 0, bt 0, bt 0, bt 0, bt 0, bt 0, bt 0, bt 0, bt 0, bt 0, bt 0, bt 0, bt 0, bt 0, bt 0, bt 0, bt 0, bt 0, bt 0, bt 0, bt 0, bt 0, bt 0, bt 0, bt 0, bt 0, bt 0, bt 0, bt 0, bt 0, bt 0, bt 0, bt 0, bt 0, bt 0, bt 0, bt 0, bt 0, bt 0, bt 0, bt 0, bt 0, bt 0, bt 0, bt 0, bt 0, bt 0, bt 0, bt 0, bt 0, bt 0, bt 0, bt 0, bt 0, bt 0, bt 0, bt 0, bt 0, bt 0, bt 0, bt 0, bt 0, bt 0, bt 0, bt 0, bt 0, bt 0, bt 0, bt 0, bt 0, bt 0, bt 0, bt 0, bt 0, bt 0, bt 0, bt 0, bt 0, bt 0, bt 0, bt 0, bt 0, bt 0, bt 0, bt 0, bt 0, bt 0, bt 0, bt 0, bt 0, bt 0, bt 0, bt 0, bt 0, bt 0, bt 0, bt 0, bt 0, bt 0, bt 0, bt 0, bt 0, bt 0, bt 0, bt 0, bt 0, bt 0, bt 0, bt 0, bt 0, bt 0, bt 0, bt 0, bt 0, bt 0, bt 0, bt 0, bt 0, bt 0, bt 0, bt 0, bt 0, bt 0, bt 0, bt 0, bt 0, bt 0, bt 0, bt 0, bt 0, bt 0, bt 0, bt 0, bt 0, bt 0, bt 0, bt 0, bt 0, bt 0, bt 0, bt 0, bt 0, bt 0, bt 0, bt 0, bt 0, bt 0, bt 0, bt 0, bt 0, bt 0, bt 0, bt 0, bt 0, bt 0, bt 0, bt 0, bt 0, bt 0, bt 0, bt 0, bt 0, bt 0, bt 0, bt 0, bt 0, bt 0, bt 0, bt 0, bt 0, bt 0, bt 0, bt 0, bt 0, bt 0, bt 0, bt 0, bt 0, bt 0, bt 0, bt 0, bt 0, bt 0, bt 0, bt 0, bt 0, bt 0, bt 0, bt 0, bt 0, bt 0, bt 0, bt 0, bt 0, bt 0, bt 0, bt 0, bt 0, bt 0, bt 0, bt 0, bt 0, bt 0, bt 0, bt 0, bt 0, bt 0, bt 0, bt 0, bt 0, bt 0, bt 0, bt 0, bt 0, bt 0, bt 0, bt 0, bt 0, bt 0, bt 0, bt 0, bt 0, bt 0, bt 0, bt 0, bt 0, bt 0, bt 0, bt 0, bt 0, bt 0, bt 0, bt 0, bt 0, bt 0, bt 0, bt 0, bt 0, bt 0, bt 0, bt 0, bt 0, bt 0, bt 0, bt 0, bt 0, bt 0, bt 0, bt 0, bt 0, bt 0, bt 0, bt 0, bt 0, bt 0, bt 0, bt 0, bt 0, bt 0, bt 0, bt 0, bt 0, bt 0, bt 0, bt 0, bt 0, bt 0, bt 0, bt 0, bt 0, bt 0, bt 0, bt 0, bt 0, bt 0, bt 0, bt 0, bt 0, bt 0, bt 0, bt 0, bt 0, bt 0, bt 0, bt 0, bt 0, bt 0, bt 0, bt 0, bt 0, bt 0, bt 0, bt 0, bt 0, bt 0, bt 0, bt 0, bt 0, bt 0, bt 0, bt 0, bt 0, bt 0, bt 0, bt 0, bt 0, bt 0, bt 0, bt 0, bt 0, bt 0, bt 0, bt 0, bt 0, bt 0, bt 0, bt 0, bt 0, bt 0, bt 0, bt 0, bt 0, bt 0, bt 0, bt 0, bt 0, bt 0, bt 0, bt 0, bt 0, bt 0, bt 0, bt 0, bt 0, bt 0, bt 0, bt 0, bt 0, bt 0, bt 0, bt 0, bt 0, bt 0, bt 0, bt 0, bt 0, bt 0, bt 0, bt 0, bt 0, bt 0, bt 0, bt 0, bt 0, bt 0, bt 0, bt 0, bt 0, bt 0, bt 0, bt 0, bt 0, bt 0, bt 0, bt 0, bt 0, bt 0, bt 0, bt 0, bt 0, bt 0, bt 0, bt 0, bt 0, bt 0, bt 0, bt 0, bt 0, bt 0, bt 0, bt 0, bt 0, bt 0, bt 0, bt 0, bt 0, bt 0, bt 0, bt 0, bt 0, bt 0, bt 0, bt 0, bt 0, bt 0, bt 0, bt 0, bt 0, bt 0, bt 0, bt 0, bt 0, bt 0, bt 0, bt 0, bt 0, bt 0, bt 0, bt 0, bt 0, bt 0, bt 0, bt 0, bt 0, bt 0, bt 0, bt 0, bt 0, bt 0, bt 0, bt 0, bt 0, bt 0, bt 0, bt 0, bt 0, bt 0, bt 0, bt 0, bt 0, bt 0, bt 0, bt 0, bt 0, bt 0, bt 0, bt 0, bt 0, bt 0, bt 0, bt 0, bt 0, bt 0, bt 0, bt 0, bt 0, bt 0, bt 0, bt 0, bt 0, bt 0, bt 0, bt 0, bt 0, bt 0, bt 0, bt 0, bt 0, bt 0, bt 0, bt 0, bt 0, bt 0, bt 0, bt 0, bt 0, bt 0, bt 0, bt 0, bt 0, bt 0, bt 0, bt 0, bt 0, bt 0, bt 0, bt 0, bt 0, bt 0, bt 0, bt 0, bt 0, bt 0, bt 0, bt 0, bt 0, bt 0, bt 0, bt 0, bt 0, bt 0, bt 0, bt 0, bt 0, bt 0, bt 0, bt 0, bt 0, bt 0, bt 0, bt 0, bt 0, bt 0, bt 0, bt 0, bt 0, bt 0, bt 0, bt 0, bt 0, bt 0, bt 0, bt 0, bt 0, bt 0, bt 0, bt 0, bt 0, bt 0, bt 0, bt 0, bt 0, bt 0, bt 0, bt 0, bt 0, bt 0, bt 0, bt 0, bt 0, bt 0, bt 0, bt 0, bt 0, bt 0, bt 0, bt 0, bt 0, bt 0, bt 0, bt 0, bt 0, bt 0, bt 0, bt 0, bt 0, bt 0, bt 0, bt 0, bt 0, bt 0, bt 0, bt 0, bt 0, bt 0, bt 0, bt 0, bt 0, bt 0, bt 0, bt 0, bt 0, bt 0, bt 0, bt 0, bt 0, bt 0, bt 0, bt 0, bt 0, bt 0, bt 0, bt 0, bt 0, bt 0, bt 0, bt 0, bt 0, bt 0, bt 0, bt 0, bt 0, bt 0, bt 0, bt 0, bt 0, bt 0, bt 0, bt 0, bt 0, bt 0, bt 0, bt 0, bt 0, bt 0, bt 0, bt 0, bt 0, bt 0, bt 0, bt 0, bt 0, bt 0, bt 0, bt 0, bt 0, bt 0, bt 0, bt 0, bt 0, bt 0, bt 0, bt 0, bt 0, bt 0, bt 0, bt 0, bt 0, bt 0, bt 0, bt 0, bt 0, bt 0, bt 0, bt 0, bt 0, bt 0, bt 0, bt 0, bt 0, bt 0, bt 0, bt 0, bt 0, bt 0, bt 0, bt 0, bt 0, bt 0, bt 0, bt 0, bt 0, bt 0, bt 0, bt 0, bt 0, bt 0, bt 0, bt 0, bt 0, bt 0, bt 0, bt 0, bt 0, bt 0, bt 0, bt 0, bt 0, bt 0, bt 0, bt 0, bt 0, bt 0, bt 0, bt 0, bt 0, bt 0, bt 0, bt 0, bt 0, bt 0, bt 0, bt 0, bt 0, bt 0, bt 0, bt 0, bt 0, bt 0, bt 0, bt 0, bt 0, bt 0, bt 0, bt 0, bt 0, bt 0, bt 0, bt 0, bt 0, bt 0, bt 0, bt 0, bt 0, bt 0, bt 0, bt 0, bt 0, bt 0, bt 0, bt 0, bt 0, bt 0, bt 0, bt 0, bt 0, bt 0, bt 0, bt 0, bt 0, bt 0, bt 0, bt 0, bt 0, bt 0, bt 0, bt 0, bt 0, bt 0, bt 0, bt 0, bt 0, bt 0, bt 0, bt 0, bt 0, bt 0, bt 0, bt 0, bt 0, bt 0, bt 0, bt 0, bt 0, bt 0, bt 0, bt 0, bt 0, bt 0, bt 0, bt 0, bt 0, bt 0, bt 0, bt 0, bt 0, bt 0, bt 0, bt 0, bt 0, bt 0, bt 0, bt 0, bt 0, bt 0, bt 0, bt 0, bt 0, bt 0, bt 0, bt 0, bt 0, bt 0, bt 0, bt 0, bt 0, bt 0, bt 0, bt 0, bt 0, bt 0, bt 0, bt 0, bt 0, bt 0, bt 0, bt 0, bt 0, bt 0, bt 0, bt 0, bt 0, bt 0, bt 0, bt 0, bt 0, bt 0, bt 0, bt 0, bt 0, bt 0, bt 0, bt 0, bt 0, bt 0, bt 0, bt 0, bt 0, bt 0, bt 0, bt 0, bt 0, bt 0, bt 0], (.agg ⟨[bt 84, bt 27, bt 62, bt 157, bt 170, bt 9, bt 178, bt 11, bt 248, bt 95, bt 162, bt 115, bt 229, bt 203, bt 211, bt 232, bt 1, bt 133, bt 170, bt 78, bt 194, bt 152, bt 231, bt 101, bt 219, bt 135, bt 116, bt 43, bt 112, bt 19, bt 138, bt 83]⟩))
theorem row5_ok : tabRow E1 (nat_lit 5000) 20 row5 = true := by kernel_rfl
noncomputable def hashTab : List (List Value × Value) := [row0, row1, row2, row3, row4, row5]
theorem hashTab_ok : ∀ e ∈ hashTab, tabRow E1 (nat_lit 5000) 20 e = true := by
  intro e he
  unfold hashTab at he
  rcases List.mem_cons.1 he with rfl | he
  · exact row0_ok
  rcases List.mem_cons.1 he with rfl | he
  · exact row1_ok
  rcases List.mem_cons.1 he with rfl | he
  · exact row2_ok
  rcases List.mem_cons.1 he with rfl | he
  · exact row3_ok
  rcases List.mem_cons.1 he with rfl | he
  · exact row4_ok
  rcases List.mem_cons.1 he with rfl | he
  · exact row5_ok
  cases he
noncomputable def E : Env := ⟨tab.get, fun n => Bool.rec (motive := fun _ => Option Summ) none (some (tabSum hashTab)) (Nat.beq n 20), cMethod Tryz.prog, cNilOk Tryz.prog⟩
theorem E_ok (B : Nat) : EnvOK Tryz.prog B E := by
  refine ⟨fun f k h => Tr.allP_get tab_ok f k h, rfl, rfl, fun f s h => ?_⟩
  replace h : (Bool.rec (motive := fun _ => Option Summ) none (some (tabSum hashTab)) (Nat.beq f 20)) = some s := h
  cases hb : Nat.beq f 20 with
  | false => rw [hb] at h; cases h
  | true =>
    rw [hb] at h
    cases h
    rw [beq_iff] at hb
    subst hb
    exact fun ι H w args args' v H' s hr hv => tab_sound mixed (E1_ok B) (nat_lit 5000) 20 hashTab_ok s hr hv
end Go.Proofs.YtlajogneffpnlaaGreat.Eng
