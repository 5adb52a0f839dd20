/-
  The law's call runs to true on the abstract machine, for every argument. No condition.
-/
import Derived.Test.YtlajogneffpnlaaGreatW
namespace Go.Proofs.YtlajogneffpnlaaGreat.Eng
open Go Go.Eng
set_option linter.unusedVariables false
set_option maxRecDepth 100000

noncomputable def k5b (b0 : Bool) : KFun := ⟨[rTmp (nat_lit 4) g4], (kSeq (oSet (xTurn (tnBox g1)) p3 
(oSet (xMove q0) p4 
oEnd)) (kSeq (kSeq (oSet (xMove g0) p19 
(oSet (xLook (lkLen .sl g19)) p20 
(oSet (xLook (fun _ _ => some (.bool b0))) p21 
oEnd))) (kCond g21 (kSeq (oSet (xCall q2 []) p22 
(oSet (xMove g22) p4 
oEnd)) kRet) kSkip)) (kSeq (oSet (xMove q3) p5 
oEnd) (kSeq (oSet (xMove q3) p6 
oEnd) (kSeq (oSet (xMove g5) p23 
(oSet (xLook (lkBuild q4 [])) p24 
(oSet (xTurn (tnBox g24)) p25 
(oSet (xTurn (tnBuildSlice q5 [((nat_lit 0), (nat_lit 1), g23), ((nat_lit 1), (nat_lit 1), g25)] (nat_lit 2))) p26 
(oSet (xMove g26) p7 
oEnd))))) (kSeq (kSeq (oSet (xMove q6) p8 
oEnd) (kBlock (nat_lit 0) (kLoop (kSeq (kSeq (oSet (xMove g8) p27 
(oSet (xLook (lkBin .lss g27 q7)) p28 
oEnd)) (kCond g28 kSkip (kExit (nat_lit 0)))) (kSeq (kBlock (nat_lit 1) (kSeq (oSet (xMove g7) p32 
(oSet (xMove g8) p33 
(oSet (xLook (lkIxSl (nat_lit 1) g32 g33)) p34 
(oSet (xLook (lkLoad1 g34)) p35 
(oSet (xMove g0) p36 
(oSet (xCall q8 [g35, g36]) p37 
(oSet (xMove g37) p31 
(oSet (xLook (lkExtract (nat_lit 0) g31)) p38 
(oSet (xLook (lkExtract (nat_lit 1) g31)) p39 
(oSet (xTurn (tnAlloc q9)) p9 
(oDo (xTurn (tnStore (nat_lit 32) g9 g38)) 
(oSet (xMove g39) p10 
oEnd)))))))))))) (kSeq (kDraw 
(dLook (nat_lit 0) [] [] (lkMove g7) p41 
(dLook (nat_lit 1) [] [] (lkMove g8) p42 
(dLook (nat_lit 2) [] [] (lkIxSl (nat_lit 1) g41 g42) p43 
(dLook (nat_lit 3) [] [] (lkLoad1 g43) p44 
(dLook (nat_lit 4) [] [] (lkLoadN (nat_lit 32) g3) p45 
(dTurn (nat_lit 5) [] [] true (xCall q10 [g44, g45]) p46 
(dLook (nat_lit 6) [] [(nat_lit 5)] (lkMove g46) p40 
(dLook (nat_lit 7) [] [(nat_lit 5)] (lkExtract (nat_lit 0) g40) p47 
(dLook (nat_lit 8) [] [(nat_lit 5)] (lkExtract (nat_lit 1) g40) p48 
(dLook (nat_lit 9) [] [(nat_lit 5)] (lkMove g47) p11 
(dLook (nat_lit 10) [] [(nat_lit 5)] (lkMove g48) p12 (dEnd [(nat_lit 41), (nat_lit 42), (nat_lit 43), (nat_lit 44), (nat_lit 45), (nat_lit 46), (nat_lit 40), (nat_lit 47), (nat_lit 48), (nat_lit 11), (nat_lit 12)]))))))))))))) (kSeq (oSet (xMove g7) p50 
(oSet (xMove g8) p51 
(oSet (xLook (lkIxSl (nat_lit 1) g50 g51)) p52 
(oSet (xLook (lkLoad1 g52)) p53 
(oSet (xCall q11 [g53, q12]) p54 
(oSet (xMove g54) p49 
(oSet (xLook (lkExtract (nat_lit 0) g49)) p55 
(oSet (xLook (lkExtract (nat_lit 1) g49)) p56 
(oSet (xMove g55) p13 
(oSet (xMove g56) p14 
oEnd)))))))))) (kSeq (kSeq (kDraw 
(dLook (nat_lit 0) [] [] (lkLoadN (nat_lit 32) g9) p57 
(dLook (nat_lit 1) [] [] (lkBuild q9 []) p58 
(dLook (nat_lit 2) [] [] (lkEq true (.flat [(.int .u8), (.int .u8), (.int .u8), (.int .u8), (.int .u8), (.int .u8), (.int .u8), (.int .u8), (.int .u8), (.int .u8), (.int .u8), (.int .u8), (.int .u8), (.int .u8), (.int .u8), (.int .u8), (.int .u8), (.int .u8), (.int .u8), (.int .u8), (.int .u8), (.int .u8), (.int .u8), (.int .u8), (.int .u8), (.int .u8), (.int .u8), (.int .u8), (.int .u8), (.int .u8), (.int .u8), (.int .u8)]) g57 g58) p59 
(dLook (nat_lit 3) [] [] (lkMove g59) p60 
(dIf [] (wantF g60) p61 (dLook (nat_lit 4) [] [] (lkMove g10) p61 k5d23) k5d23)))))) (kCond g97 (kSeq (oSet (xMove q0) p4 
oEnd) kRet) kSkip)) (kSeq (kDraw 
(dLook (nat_lit 0) [] [] (lkMove g7) p98 
(dLook (nat_lit 1) [] [] (lkMove g8) p99 
(dLook (nat_lit 2) [] [] (lkIxSl (nat_lit 1) g98 g99) p100 
(dLook (nat_lit 3) [] [] (lkLoad1 g100) p101 
(dLook (nat_lit 4) [] [] (lkLoadN (nat_lit 32) g3) p102 
(dTurn (nat_lit 5) [] [] true (xCall q22 [g101, g102]) p103 
(dLook (nat_lit 6) [] [(nat_lit 5)] (lkMove g103) p104 
(dIf [(nat_lit 5)] (wantF g104) p105 (dLook (nat_lit 7) [] [(nat_lit 5)] (lkMove g7) p105 k5d54) k5d54))))))))) (kCond g144 (kSeq (oSet (xMove q0) p4 
oEnd) kRet) kSkip))))))) (oSet (xMove g8) p29 
(oSet (xLook (lkBin .add g29 q14)) p30 
(oSet (xMove g30) p8 
oEnd)))))))) (kSeq (oSet (xMove g6) p146 
(oSet (xCall q23 [g146]) p147 
(oSet (xMove g147) p145 
(oSet (xLook (lkExtract (nat_lit 0) g145)) p148 
(oSet (xLook (lkExtract (nat_lit 1) g145)) p149 
(oSet (xMove g148) p15 
(oSet (xMove g149) p16 
oEnd))))))) (kSeq (oSet (xLook (lkBuild q24 [])) p151 
(oSet (xTurn (tnBox g151)) p152 
(oSet (xCall q23 [g152]) p153 
(oSet (xMove g153) p150 
(oSet (xLook (lkExtract (nat_lit 0) g150)) p154 
(oSet (xLook (lkExtract (nat_lit 1) g150)) p155 
(oSet (xMove g154) p17 
(oSet (xMove g155) p18 
oEnd)))))))) (kSeq (oSet (xMove g15) p156 
(oSet (xLook (lkEq false .ptr g156 q3)) p157 
(oSet (xMove g157) p158 
(oSetIf (wantT g158) (xMove g17) p159 
(oSetIf (wantT g158) (xLook (lkEq false .ptr g159 q3)) p160 
(oSet (xLook (lkPick g158 g160 q0)) p161 
(oSet (xMove g161) p162 
(oSetIf (wantT g162) (xMove g16) p163 
(oSetIf (wantT g162) (xLook (lkEq false .int g163 q14)) p164 
(oSet (xLook (lkPick g162 g164 q0)) p165 
(oSet (xMove g165) p166 
(oSetIf (wantT g166) (xMove g18) p167 
(oSetIf (wantT g166) (xLook (lkEq false .int g167 q14)) p168 
(oSet (xLook (lkPick g166 g168 q0)) p169 
(oSet (xMove g169) p170 
(oSetIf (wantT g170) (xCall q2 []) p171 
(oSet (xLook (lkPick g170 g171 q0)) p172 
(oSet (xMove g172) p4 
oEnd)))))))))))))))))) kRet)))))))))⟩

theorem run_n_f  : (enterK E2 (ctx E2 (nat_lit 5000)) (k5b false) [.slice none 0 0, .agg ⟨List.replicate 32 (.chan none)⟩] ⟨0, .nil⟩).sure = true := by kernel_rfl
theorem ran_n  : (enterK E2 (ctx E2 (nat_lit 5000)) k5 [.slice none 0 0, .agg ⟨List.replicate 32 (.chan none)⟩] ⟨0, .nil⟩).sure = true :=
  run_n_f 
theorem run_e_f  : (enterK E2 (ctx E2 (nat_lit 5000)) (k5b false) [.slice (some ⟨0, 0, some 1⟩) 0 0, .agg ⟨List.replicate 32 (.chan none)⟩] ⟨0, .nil⟩).sure = true := by kernel_rfl
theorem ran_e  : (enterK E2 (ctx E2 (nat_lit 5000)) k5 [.slice (some ⟨0, 0, some 1⟩) 0 0, .agg ⟨List.replicate 32 (.chan none)⟩] ⟨0, .nil⟩).sure = true :=
  run_e_f 
theorem run_p_t (n0 c0 : Nat) : (enterK E2 (ctx E2 (nat_lit 5000)) (k5b true) [.slice (some ⟨0, 0, none⟩) n0 c0, .agg ⟨List.replicate 32 (.chan none)⟩] ⟨1, .nil⟩).sure = true := by kernel_rfl
theorem run_p_f (n0 c0 : Nat) : (enterK E2 (ctx E2 (nat_lit 5000)) (k5b false) [.slice (some ⟨0, 0, none⟩) n0 c0, .agg ⟨List.replicate 32 (.chan none)⟩] ⟨1, .nil⟩).sure = true := by kernel_rfl
theorem ran_p (n0 c0 : Nat) : (enterK E2 (ctx E2 (nat_lit 5000)) k5 [.slice (some ⟨0, 0, none⟩) n0 c0, .agg ⟨List.replicate 32 (.chan none)⟩] ⟨1, .nil⟩).sure = true :=
  sure_bool (F := fun b => enterK E2 (ctx E2 (nat_lit 5000)) (k5b b) [.slice (some ⟨0, 0, none⟩) n0 c0, .agg ⟨List.replicate 32 (.chan none)⟩] ⟨1, .nil⟩) (ltInt (.ofNat (nat_lit 100)) (.ofNat n0)) (run_p_t n0 c0) (run_p_f n0 c0)
end Go.Proofs.YtlajogneffpnlaaGreat.Eng
