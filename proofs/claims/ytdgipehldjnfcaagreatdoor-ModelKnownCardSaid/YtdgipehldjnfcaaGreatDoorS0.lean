/-
  The functions that the law reaches, as the abstract machine runs them, printed by program. No condition.
-/
import Derived.Test.YtdgipehldjnfcaaGreatDoorA
namespace Go.Proofs.YtdgipehldjnfcaaGreatDoor.Eng
open Go Go.Eng
set_option linter.unusedVariables false
set_option maxRecDepth 100000

def q0 : OpdF := kC (.bool false)
def q1 : OpdF := kC (.func (.func (nat_lit 4)) ⟨[]⟩ ⟨[]⟩)
def q2 : OpdF := kC (.pointer none)
def q3 : OpdF := kC (.func (.func (nat_lit 6)) ⟨[]⟩ ⟨[]⟩)
def q4 : OpdF := kC (.string ⟨⟨[97]⟩⟩)
def q5 : List Value := [(.string ⟨⟨[]⟩⟩)]
def q6 : List Value := [(.int .i64 (.ofNat (nat_lit 0))), (.string ⟨⟨[]⟩⟩), (.string ⟨⟨[]⟩⟩), (.string ⟨⟨[]⟩⟩), (.string ⟨⟨[]⟩⟩), (.int .i64 (.ofNat (nat_lit 0))), (.int .i64 (.ofNat (nat_lit 0))), (.slice none (nat_lit 0) (nat_lit 0)), (.slice none (nat_lit 0) (nat_lit 0)), (.int .i64 (.ofNat (nat_lit 0)))]
def q7 : OpdF := kC (.int .i64 (.ofNat (nat_lit 3)))
def q8 : OpdF := kC (.string ⟨⟨[109]⟩⟩)
def q9 : List Value := [(.int .i64 (.ofNat (nat_lit 0)))]
def q10 : OpdF := kC (.int .i64 (.ofNat (nat_lit 0)))
def q11 : OpdF := kC (.func (.func (nat_lit 5)) ⟨[]⟩ ⟨[]⟩)
def q12 : OpdF := kC (.slice none (nat_lit 0) (nat_lit 0))
def q13 : OpdF := kC (.int .i64 (.ofNat (nat_lit 18)))
def q14 : OpdF := kC (.func (.func (nat_lit 7)) ⟨[]⟩ ⟨[]⟩)
def q15 : List Value := [(.int .i64 (.ofNat (nat_lit 0))), (.slice none (nat_lit 0) (nat_lit 0)), (.slice none (nat_lit 0) (nat_lit 0)), (.slice none (nat_lit 0) (nat_lit 0)), (.slice none (nat_lit 0) (nat_lit 0))]
def q16 : OpdF := kC (.int .i64 (.ofNat (nat_lit 1)))
def q17 : OpdF := kC (.int .i64 (.ofNat (nat_lit 4)))
def q18 : OpdF := kC (.int .i64 (.ofNat (nat_lit 2)))
def q19 : OpdF := kC (.int .i64 (.ofNat (nat_lit 5)))
def q20 : OpdF := kC (.int .i64 (.ofNat (nat_lit 6)))
def q21 : OpdF := kC (.string ⟨⟨[110]⟩⟩)
def q22 : OpdF := kC (.int .i64 (.ofNat (nat_lit 7)))
def q23 : OpdF := kC (.int .i64 (.ofNat (nat_lit 14)))
def q24 : List Value := [(.string ⟨⟨[]⟩⟩), (.slice none (nat_lit 0) (nat_lit 0))]
def q25 : OpdF := kC (.string ⟨⟨[98]⟩⟩)
def q26 : List Value := [(.string ⟨⟨[]⟩⟩), (.slice none (nat_lit 0) (nat_lit 0)), (.string ⟨⟨[]⟩⟩), (.slice none (nat_lit 0) (nat_lit 0))]
def q27 : OpdF := kC (.func (.func (nat_lit 8)) ⟨[]⟩ ⟨[]⟩)
def q28 : OpdF := kC (.func (.func (nat_lit 9)) ⟨[]⟩ ⟨[]⟩)
noncomputable def k3 : KFun := ⟨[rTmp (nat_lit 0) g0], (kSeq (oSet (xMove q0) p0 
oEnd) (kSeq (oSet (xCall q1 []) p7 
(oSet (xMove g7) p1 
oEnd)) (kSeq (kSeq (oSet (xMove g1) p8 
(oSet (xLook (lkEq false .ptr g8 q2)) p9 
oEnd)) (kCond g9 (kSeq (oSet (xMove q0) p0 
oEnd) kRet) kSkip)) (kSeq (oSet (xMove g1) p10 
(oSet (xCall q3 [q4]) p11 
(oSet (xTurn (tnBuildSlice q5 [((nat_lit 0), (nat_lit 1), g11)] (nat_lit 1))) p12 
(oSet (xLook (lkBuild q6 [((nat_lit 0), (nat_lit 1), q7), ((nat_lit 1), (nat_lit 1), q8), ((nat_lit 7), (nat_lit 1), g12)])) p13 
(oSet (xTurn (tnBuildSlice q9 [((nat_lit 0), (nat_lit 1), q10)] (nat_lit 1))) p14 
(oSet (xCall q11 [g10, g13, g14, q12]) p15 
(oSet (xMove g15) p2 
oEnd))))))) (kSeq (oSet (xMove g1) p16 
(oSet (xLook (lkBuild q6 [((nat_lit 0), (nat_lit 1), q13), ((nat_lit 1), (nat_lit 1), q8)])) p17 
(oSet (xCall q14 [g16, g17]) p18 
(oSet (xTurn (tnAlloc q15)) p3 
(oDo (xTurn (tnStore (nat_lit 5) g3 g18)) 
oEnd))))) (kSeq (oSet (xLook (lkFieldAddr (nat_lit 0) g3)) p19 
(oSet (xLook (lkLoad1 g19)) p20 
(oSet (xLook (lkEq false .int g20 q10)) p21 
(oSet (xMove g21) p22 
(oSetIf (wantT g22) (xLook (lkFieldAddr (nat_lit 2) g3)) p23 
(oSetIf (wantT g22) (xLook (lkLoad1 g23)) p24 
(oSetIf (wantT g22) (xLook (lkLen .sl g24)) p25 
(oSetIf (wantT g22) (xLook (lkEq false .int g25 q16)) p26 
(oSet (xLook (lkPick g22 g26 q0)) p27 
(oSet (xMove g27) p28 
(oSetIf (wantT g28) (xMove g1) p29 
(oSetIf (wantT g28) (xLook (lkBuild q6 [((nat_lit 0), (nat_lit 1), q17), ((nat_lit 1), (nat_lit 1), q8), ((nat_lit 5), (nat_lit 1), q18)])) p30 
(oSetIf (wantT g28) (xCall q14 [g29, g30]) p31 
(oSetIf (wantT g28) (xLook (lkField1 (nat_lit 0) g31)) p32 
(oSetIf (wantT g28) (xLook (lkEq false .int g32 q19)) p33 
(oSet (xLook (lkPick g28 g33 q0)) p34 
(oSet (xMove g34) p35 
(oSetIf (wantT g35) (xMove g1) p36 
(oSetIf (wantT g35) (xLook (lkBuild q6 [((nat_lit 0), (nat_lit 1), q20), ((nat_lit 1), (nat_lit 1), q21)])) p37 
(oSetIf (wantT g35) (xCall q14 [g36, g37]) p38 
(oSetIf (wantT g35) (xLook (lkField1 (nat_lit 0) g38)) p39 
(oSetIf (wantT g35) (xLook (lkEq false .int g39 q20)) p40 
(oSet (xLook (lkPick g35 g40 q0)) p41 
(oSet (xMove g41) p42 
(oSetIf (wantT g42) (xMove g1) p43 
(oSetIf (wantT g42) (xLook (lkBuild q6 [((nat_lit 0), (nat_lit 1), q19), ((nat_lit 1), (nat_lit 1), q8), ((nat_lit 5), (nat_lit 1), q16), ((nat_lit 2), (nat_lit 1), q8)])) p44 
(oSetIf (wantT g42) (xCall q14 [g43, g44]) p45 
(oSetIf (wantT g42) (xLook (lkField1 (nat_lit 0) g45)) p46 
(oSetIf (wantT g42) (xLook (lkEq false .int g46 q22)) p47 
(oSet (xLook (lkPick g42 g47 q0)) p48 
(oSet (xMove g48) p49 
(oSetIf (wantT g49) (xMove g1) p50 
(oSetIf (wantT g49) (xLook (lkBuild q6 [((nat_lit 0), (nat_lit 1), q23)])) p51 
(oSetIf (wantT g49) (xCall q11 [g50, g51, q12, q12]) p52 
(oSet (xLook (lkPick g49 g52 q0)) p53 
(oSet (xMove g53) p4 
oEnd)))))))))))))))))))))))))))))))))))) (kSeq (oSet (xLook (lkBuild q24 [((nat_lit 0), (nat_lit 1), q25)])) p55 
(oSet (xLook (lkBuild q24 [((nat_lit 0), (nat_lit 1), q4)])) p56 
(oSet (xTurn (tnBuildSlice q26 [((nat_lit 0), (nat_lit 2), g55), ((nat_lit 2), (nat_lit 2), g56)] (nat_lit 2))) p57 
(oSet (xCall q27 [g57]) p58 
(oSet (xMove g58) p54 
(oSet (xLook (lkExtract (nat_lit 0) g54)) p59 
(oSet (xLook (lkExtract (nat_lit 1) g54)) p60 
(oSet (xMove g59) p5 
(oSet (xMove g60) p6 
oEnd))))))))) (kSeq (oSet (xCall q28 []) p61 
(oSet (xMove g61) p62 
(oSetIf (wantT g62) (xMove g2) p63 
(oSet (xLook (lkPick g62 g63 q0)) p64 
(oSet (xMove g64) p65 
(oSetIf (wantT g65) (xMove g4) p66 
(oSet (xLook (lkPick g65 g66 q0)) p67 
(oSet (xMove g67) p68 
(oSetIf (wantT g68) (xMove g6) p69 
(oSetIf (wantT g68) (xLook (lkEq false .int g69 q18)) p70 
(oSet (xLook (lkPick g68 g70 q0)) p71 
(oSet (xMove g71) p0 
oEnd)))))))))))) kRet))))))))⟩
def q29 : OpdF := kC (.func (.func (nat_lit 10)) ⟨[]⟩ ⟨[]⟩)
def q30 : OpdF := kC (.bool true)
noncomputable def k4 : KFun := ⟨[rTmp (nat_lit 0) g0], (kSeq (oSet (xMove q2) p0 
oEnd) (kSeq (oSet (xCall q29 []) p2 
(oSet (xMove g2) p1 
oEnd)) (kSeq (kSeq (oSet (xMove g1) p3 
(oSet (xLook (lkEq false .ptr g3 q2)) p4 
(oSet (xMove g4) p5 
(oSetIf (wantF g5) (xMove g1) p6 
(oSetIf (wantF g5) (xLook (lkBuild q6 [((nat_lit 0), (nat_lit 1), q16), ((nat_lit 1), (nat_lit 1), q8)])) p7 
(oSetIf (wantF g5) (xCall q11 [g6, g7, q12, q12]) p8 
(oSetIf (wantF g5) (xLook (lkUn .not g8)) p9 
(oSet (xLook (lkPick g5 q30 g9)) p10 
(oSet (xMove g10) p11 
(oSetIf (wantF g11) (xMove g1) p12 
(oSetIf (wantF g11) (xCall q3 [q4]) p13 
(oSetIf (wantF g11) (xTurn (tnBuildSlice q5 [((nat_lit 0), (nat_lit 1), g13)] (nat_lit 1))) p14 
(oSetIf (wantF g11) (xLook (lkBuild q6 [((nat_lit 0), (nat_lit 1), q18), ((nat_lit 1), (nat_lit 1), q8), ((nat_lit 7), (nat_lit 1), g14)])) p15 
(oSetIf (wantF g11) (xCall q11 [g12, g15, q12, q12]) p16 
(oSetIf (wantF g11) (xLook (lkUn .not g16)) p17 
(oSet (xLook (lkPick g11 q30 g17)) p18 
oEnd)))))))))))))))) (kCond g18 (kSeq (oSet (xMove q2) p0 
oEnd) kRet) kSkip)) (kSeq (oSet (xMove g1) p19 
(oSet (xMove g19) p0 
oEnd)) kRet))))⟩
def q31 : OpdF := kC (.func (.func (nat_lit 11)) ⟨[]⟩ ⟨[]⟩)
def q32 : OpdF := kC (.func (.func (nat_lit 12)) ⟨[]⟩ ⟨[]⟩)
noncomputable def k5 : KFun := ⟨[rTmp (nat_lit 8) g8], (kSeq (oSet (xTurn (tnBox g1)) p5 
(oSet (xMove q0) p8 
oEnd)) (kSeq (oSet (xMove g0) p10 
(oSet (xLook (lkLoadN (nat_lit 10) g5)) p11 
(oSet (xCall q14 [g10, g11]) p12 
(oSet (xTurn (tnAlloc q15)) p9 
(oDo (xTurn (tnStore (nat_lit 5) g9 g12)) 
oEnd))))) (kSeq (oSet (xLook (lkFieldAddr (nat_lit 0) g9)) p13 
(oSet (xLook (lkLoad1 g13)) p14 
(oSet (xLook (lkEq false .int g14 q10)) p15 
(oSet (xMove g15) p16 
(oSetIf (wantT g16) (xLook (lkFieldAddr (nat_lit 1) g9)) p17 
(oSetIf (wantT g16) (xLook (lkLoad1 g17)) p18 
(oSetIf (wantT g16) (xMove g2) p19 
(oSetIf (wantT g16) (xCall q31 [g18, g19]) p20 
(oSet (xLook (lkPick g16 g20 q0)) p21 
(oSet (xMove g21) p22 
(oSetIf (wantT g22) (xLook (lkFieldAddr (nat_lit 2) g9)) p23 
(oSetIf (wantT g22) (xLook (lkLoad1 g23)) p24 
(oSetIf (wantT g22) (xMove g3) p25 
(oSetIf (wantT g22) (xCall q32 [g24, g25]) p26 
(oSet (xLook (lkPick g22 g26 q0)) p27 
(oSet (xMove g27) p28 
(oSetIf (wantT g28) (xLook (lkFieldAddr (nat_lit 3) g9)) p29 
(oSetIf (wantT g28) (xLook (lkLoad1 g29)) p30 
(oSetIf (wantT g28) (xLook (lkLen .sl g30)) p31 
(oSetIf (wantT g28) (xLook (lkFieldAddr (nat_lit 4) g9)) p32 
(oSetIf (wantT g28) (xLook (lkLoad1 g32)) p33 
(oSetIf (wantT g28) (xLook (lkLen .sl g33)) p34 
(oSetIf (wantT g28) (xLook (lkBin .add g31 g34)) p35 
(oSetIf (wantT g28) (xLook (lkEq false .int g35 q10)) p36 
(oSet (xLook (lkPick g28 g36 q0)) p37 
(oSet (xMove g37) p8 
oEnd)))))))))))))))))))))))))) kRet)))⟩
def q33 : OpdF := kC (.string ⟨⟨[]⟩⟩)
def q34 : List Value := [(.int .i64 (.ofNat (nat_lit 0))), (.int .i64 (.ofNat (nat_lit 0))), (.int .i64 (.ofNat (nat_lit 0))), (.int .i64 (.ofNat (nat_lit 0))), (.int .i64 (.ofNat (nat_lit 0))), (.string ⟨⟨[]⟩⟩)]
def q35 : List Value := [(.int .i64 (.ofNat (nat_lit 0))), (.int .i64 (.ofNat (nat_lit 0))), (.int .i64 (.ofNat (nat_lit 0))), (.int .i64 (.ofNat (nat_lit 0))), (.int .i64 (.ofNat (nat_lit 0))), (.string ⟨⟨[]⟩⟩), (.int .i64 (.ofNat (nat_lit 0))), (.int .i64 (.ofNat (nat_lit 0))), (.int .i64 (.ofNat (nat_lit 0))), (.int .i64 (.ofNat (nat_lit 0))), (.int .i64 (.ofNat (nat_lit 0))), (.string ⟨⟨[]⟩⟩)]
def q36 : OpdF := kC (.func (.func (nat_lit 13)) ⟨[]⟩ ⟨[]⟩)
noncomputable def k6 : KFun := ⟨[rTmp (nat_lit 2) g2], (kSeq (oSet (xMove q33) p2 
oEnd) (kSeq (oSet (xMove g0) p6 
(oSet (xLook (lkBuild q34 [((nat_lit 0), (nat_lit 1), q16), ((nat_lit 5), (nat_lit 1), g6)])) p7 
(oSet (xLook (lkBuild q34 [((nat_lit 0), (nat_lit 1), q17)])) p8 
(oSet (xTurn (tnBuildSlice q35 [((nat_lit 0), (nat_lit 6), g7), ((nat_lit 6), (nat_lit 6), g8)] (nat_lit 2))) p9 
(oSet (xCall q36 [g9]) p10 
(oSet (xMove g10) p5 
(oSet (xLook (lkExtract (nat_lit 0) g5)) p11 
(oSet (xLook (lkExtract (nat_lit 1) g5)) p12 
(oSet (xMove g11) p3 
(oSet (xMove g12) p4 
oEnd)))))))))) (kSeq (oSet (xMove g3) p13 
(oSet (xLook (lkBytesTo g13)) p14 
(oSet (xMove g14) p2 
oEnd))) kRet)))⟩
def q37 : OpdF := kC (.func (.func (nat_lit 14)) ⟨[]⟩ ⟨[]⟩)
def q38 : OpdF := kC (.func (.func (nat_lit 16)) ⟨[]⟩ ⟨[]⟩)
def q39 : OpdF := kC (.func (.func (nat_lit 15)) ⟨[]⟩ ⟨[]⟩)
def q40 : List Value := [(.int .i64 (.ofNat (nat_lit 0))), (.int .i64 (.ofNat (nat_lit 0)))]
def q41 : OpdF := kC (.int .i64 (.negSucc (nat_lit 0)))
noncomputable def k7 : KFun := ⟨[rCellN (nat_lit 4) g4 (nat_lit 5)], (kSeq (oSet (xTurn (tnBox g1)) p3 
(oSet (xTurn (tnAlloc q15)) p4 
oEnd)) (kSeq (oSet (xLook (lkLoadN (nat_lit 10) g3)) p10 
(oSet (xCall q37 [g10]) p11 
(oSet (xMove g11) p9 
(oSet (xLook (lkExtract (nat_lit 0) g9)) p12 
(oSet (xLook (lkExtract (nat_lit 1) g9)) p13 
(oSet (xMove g12) p5 
(oSet (xMove g13) p6 
oEnd))))))) (kSeq (oSet (xMove g0) p15 
(oSet (xMove g5) p16 
(oSet (xCall q38 [g15, g16]) p17 
(oSet (xCall q39 [g17]) p18 
(oSet (xMove g18) p14 
(oSet (xLook (lkExtract (nat_lit 0) g14)) p19 
(oSet (xLook (lkExtract (nat_lit 1) g14)) p20 
(oSet (xTurn (tnAlloc q15)) p7 
(oSet (xTurn (tnAlloc q40)) p8 
(oDo (xTurn (tnStore (nat_lit 5) g7 g19)) 
(oDo (xTurn (tnStore (nat_lit 2) g8 g20)) 
oEnd))))))))))) (kSeq (kSeq (oSet (xMove g6) p21 
(oSet (xLook (lkEq true .int g21 q10)) p22 
(oSet (xMove g22) p23 
(oSetIf (wantF g23) (xLook (lkFieldAddr (nat_lit 0) g8)) p24 
(oSetIf (wantF g23) (xLook (lkLoad1 g24)) p25 
(oSetIf (wantF g23) (xLook (lkEq true .int g25 q10)) p26 
(oSet (xLook (lkPick g23 q30 g26)) p27 
oEnd))))))) (kCond g27 (kSeq (oSet (xLook (lkBuild q15 [((nat_lit 0), (nat_lit 1), q41)])) p28 
(oDo (xTurn (tnStore (nat_lit 5) g4 g28)) 
oEnd)) kRet) kSkip)) (kSeq (oSet (xLook (lkLoadN (nat_lit 5) g7)) p29 
(oDo (xTurn (tnStore (nat_lit 5) g4 g29)) 
oEnd)) kRet)))))⟩
def q42 : OpdF := kC (.func (.func (nat_lit 17)) ⟨[]⟩ ⟨[]⟩)
def q43 : OpdF := kC (.func (.func (nat_lit 18)) ⟨[]⟩ ⟨[]⟩)
def q44 : List Value := [(.slice none (nat_lit 0) (nat_lit 0)), (.bool false)]
noncomputable def k8 : KFun := ⟨[rTmp (nat_lit 2) g2, rTmp (nat_lit 3) g3], (kSeq (oSet (xMove q2) p2 
(oSet (xMove q10) p3 
oEnd)) (kSeq (kSeq (oSet (xMove g0) p7 
(oSet (xCall q42 [g7]) p8 
(oSet (xMove g8) p6 
(oSet (xLook (lkExtract (nat_lit 0) g6)) p9 
(oSet (xLook (lkExtract (nat_lit 1) g6)) p10 
(oSet (xMove g9) p4 
(oSet (xMove g10) p5 
oEnd))))))) (kSeq (oSet (xMove g4) p11 
(oSet (xLook (lkEq true .int g11 q10)) p12 
oEnd)) (kCond g12 (kSeq (oSet (xMove g4) p13 
(oSet (xMove q2) p2 
(oSet (xMove g13) p3 
oEnd))) kRet) kSkip))) (kSeq (oSet (xMove g0) p14 
(oSet (xCall q43 [g14]) p15 
(oSet (xLook (lkBuild q44 [((nat_lit 0), (nat_lit 1), g15), ((nat_lit 1), (nat_lit 1), q30)])) p16 
(oSet (xTurn (tnBox g16)) p17 
(oSet (xMove g17) p2 
(oSet (xMove q10) p3 
oEnd)))))) kRet)))⟩
def q45 : OpdF := kC (.int .i64 (.ofNat (nat_lit 8)))
def q46 : OpdF := kC (.int .i64 (.ofNat (nat_lit 9)))
noncomputable def k9 : KFun := ⟨[rTmp (nat_lit 0) g0], (kSeq (oSet (xMove q0) p0 
oEnd) (kSeq (oSet (xCall q1 []) p2 
(oSet (xMove g2) p1 
oEnd)) (kSeq (oSet (xMove g1) p3 
(oSet (xLook (lkEq true .ptr g3 q2)) p4 
(oSet (xMove g4) p5 
(oSetIf (wantT g5) (xMove g1) p6 
(oSetIf (wantT g5) (xLook (lkBuild q6 [((nat_lit 0), (nat_lit 1), q45)])) p7 
(oSetIf (wantT g5) (xTurn (tnBuildSlice q9 [((nat_lit 0), (nat_lit 1), q16)] (nat_lit 1))) p8 
(oSetIf (wantT g5) (xTurn (tnBuildSlice q5 [((nat_lit 0), (nat_lit 1), q8)] (nat_lit 1))) p9 
(oSetIf (wantT g5) (xCall q11 [g6, g7, g8, g9]) p10 
(oSet (xLook (lkPick g5 g10 q0)) p11 
(oSet (xMove g11) p12 
(oSetIf (wantT g12) (xMove g1) p13 
(oSetIf (wantT g12) (xLook (lkBuild q6 [((nat_lit 0), (nat_lit 1), q46), ((nat_lit 1), (nat_lit 1), q8), ((nat_lit 5), (nat_lit 1), q41), ((nat_lit 3), (nat_lit 1), q4)])) p14 
(oSetIf (wantT g12) (xTurn (tnBuildSlice q5 [((nat_lit 0), (nat_lit 1), q4)] (nat_lit 1))) p15 
(oSetIf (wantT g12) (xCall q11 [g13, g14, q12, g15]) p16 
(oSet (xLook (lkPick g12 g16 q0)) p17 
(oSet (xMove g17) p0 
oEnd)))))))))))))))) kRet)))⟩
noncomputable def k10 : KFun := ⟨[rTmp (nat_lit 0) g0], (kSeq (oSet (xMove q2) p0 
oEnd) (kSeq (oSet (xLook (lkBuild q44 [((nat_lit 1), (nat_lit 1), q30)])) p1 
(oSet (xTurn (tnBox g1)) p2 
(oSet (xMove g2) p0 
oEnd))) kRet))⟩
noncomputable def k11 : KFun := ⟨[rTmp (nat_lit 4) g4], (kSeq (oSet (xMove q0) p4 
oEnd) (kSeq (kSeq (oSet (xMove g0) p6 
(oSet (xLook (lkLen .sl g6)) p7 
(oSet (xMove g1) p8 
(oSet (xLook (lkLen .sl g8)) p9 
(oSet (xLook (lkEq true .int g7 g9)) p10 
oEnd))))) (kCond g10 (kSeq (oSet (xMove q0) p4 
oEnd) kRet) kSkip)) (kSeq (kSeq (oSet (xMove q10) p5 
oEnd) (kBlock (nat_lit 0) (kLoop (kSeq (kSeq (oSet (xMove g5) p11 
(oSet (xMove g0) p12 
(oSet (xLook (lkLen .sl g12)) p13 
(oSet (xLook (lkBin .lss g11 g13)) p14 
oEnd)))) (kCond g14 kSkip (kExit (nat_lit 0)))) (kSeq (kBlock (nat_lit 1) (kSeq (kDraw 
(dLook (nat_lit 0) [] [] (lkMove g0) p17 
(dLook (nat_lit 1) [] [] (lkMove g5) p18 
(dLook (nat_lit 2) [] [] (lkIxSl (nat_lit 1) g17 g18) p19 
(dLook (nat_lit 3) [] [] (lkLoad1 g19) p20 
(dLook (nat_lit 4) [] [] (lkMove g1) p21 
(dLook (nat_lit 5) [] [] (lkMove g5) p22 
(dLook (nat_lit 6) [] [] (lkIxSl (nat_lit 1) g21 g22) p23 
(dLook (nat_lit 7) [] [] (lkLoad1 g23) p24 
(dLook (nat_lit 8) [] [] (lkEq true .int g20 g24) p25 (dEnd [(nat_lit 17), (nat_lit 18), (nat_lit 19), (nat_lit 20), (nat_lit 21), (nat_lit 22), (nat_lit 23), (nat_lit 24), (nat_lit 25)]))))))))))) (kCond g25 (kSeq (oSet (xMove q0) p4 
oEnd) kRet) kSkip))) (oSet (xMove g5) p15 
(oSet (xLook (lkBin .add g15 q16)) p16 
(oSet (xMove g16) p5 
oEnd)))))))) (kSeq (oSet (xMove q30) p4 
oEnd) kRet))))⟩
noncomputable def k12 : KFun := ⟨[rTmp (nat_lit 4) g4], (kSeq (oSet (xMove q0) p4 
oEnd) (kSeq (kSeq (oSet (xMove g0) p6 
(oSet (xLook (lkLen .sl g6)) p7 
(oSet (xMove g1) p8 
(oSet (xLook (lkLen .sl g8)) p9 
(oSet (xLook (lkEq true .int g7 g9)) p10 
oEnd))))) (kCond g10 (kSeq (oSet (xMove q0) p4 
oEnd) kRet) kSkip)) (kSeq (kSeq (oSet (xMove q10) p5 
oEnd) (kBlock (nat_lit 0) (kLoop (kSeq (kSeq (oSet (xMove g5) p11 
(oSet (xMove g0) p12 
(oSet (xLook (lkLen .sl g12)) p13 
(oSet (xLook (lkBin .lss g11 g13)) p14 
oEnd)))) (kCond g14 kSkip (kExit (nat_lit 0)))) (kSeq (kBlock (nat_lit 1) (kSeq (kDraw 
(dLook (nat_lit 0) [] [] (lkMove g0) p17 
(dLook (nat_lit 1) [] [] (lkMove g5) p18 
(dLook (nat_lit 2) [] [] (lkIxSl (nat_lit 1) g17 g18) p19 
(dLook (nat_lit 3) [] [] (lkLoad1 g19) p20 
(dLook (nat_lit 4) [] [] (lkMove g1) p21 
(dLook (nat_lit 5) [] [] (lkMove g5) p22 
(dLook (nat_lit 6) [] [] (lkIxSl (nat_lit 1) g21 g22) p23 
(dLook (nat_lit 7) [] [] (lkLoad1 g23) p24 
(dLook (nat_lit 8) [] [] (lkEq true .str g20 g24) p25 (dEnd [(nat_lit 17), (nat_lit 18), (nat_lit 19), (nat_lit 20), (nat_lit 21), (nat_lit 22), (nat_lit 23), (nat_lit 24), (nat_lit 25)]))))))))))) (kCond g25 (kSeq (oSet (xMove q0) p4 
oEnd) kRet) kSkip))) (oSet (xMove g5) p15 
(oSet (xLook (lkBin .add g15 q16)) p16 
(oSet (xMove g16) p5 
oEnd)))))))) (kSeq (oSet (xMove q30) p4 
oEnd) kRet))))⟩
def q47 : OpdF := kC (.func (.func (nat_lit 19)) ⟨[]⟩ ⟨[]⟩)
def q48 : OpdF := kC (.func (.func (nat_lit 20)) ⟨[]⟩ ⟨[]⟩)
def q49 : OpdF := kC (.func (.func (nat_lit 21)) ⟨[]⟩ ⟨[]⟩)
def q50 : OpdF := kC (.func (.func (nat_lit 22)) ⟨[]⟩ ⟨[]⟩)
def q51 : OpdF := kC (.func (.func (nat_lit 23)) ⟨[]⟩ ⟨[]⟩)
def q52 : List Value := [(.slice none (nat_lit 0) (nat_lit 0)), (.slice none (nat_lit 0) (nat_lit 0))]
def q53 : OpdF := kC (.func (.func (nat_lit 24)) ⟨[]⟩ ⟨[]⟩)
noncomputable def k13 : KFun := ⟨[rTmp (nat_lit 2) g2, rTmp (nat_lit 3) g3], (kSeq (oSet (xMove q12) p2 
(oSet (xMove q10) p3 
oEnd)) (kSeq (kSeq (oSet (xMove g0) p14 
(oSet (xCall q47 [g14]) p15 
(oSet (xMove g15) p13 
(oSet (xLook (lkExtract (nat_lit 0) g13)) p16 
(oSet (xLook (lkExtract (nat_lit 1) g13)) p17 
(oSet (xMove g16) p4 
(oSet (xMove g17) p5 
oEnd))))))) (kSeq (oSet (xMove g4) p18 
(oSet (xLook (lkEq true .int g18 q10)) p19 
oEnd)) (kCond g19 (kSeq (oSet (xMove g4) p20 
(oSet (xMove q12) p2 
(oSet (xMove g20) p3 
oEnd))) kRet) kSkip))) (kSeq (oSet (xCall q48 []) p21 
(oSet (xMove g21) p6 
oEnd)) (kSeq (oSet (xMove g6) p22 
(oSet (xMove g0) p23 
(oSet (xLook (lkLen .sl g23)) p24 
(oSet (xCall q49 [g22, g24]) p25 
oEnd)))) (kSeq (oSet (xMove g6) p27 
(oSet (xCall q50 [g27]) p28 
(oSet (xMove g28) p26 
(oSet (xLook (lkExtract (nat_lit 0) g26)) p29 
(oSet (xLook (lkExtract (nat_lit 1) g26)) p30 
(oSet (xMove g29) p7 
(oSet (xMove g30) p8 
oEnd))))))) (kSeq (kSeq (oSet (xMove g0) p31 
(oSet (xLook (lkLen .sl g31)) p32 
(oSet (xMove q10) p33 
oEnd))) (kBlock (nat_lit 0) (kLoop (kSeq (oSet (xLook (lkBin .lss g33 g32)) p34 
oEnd) (kSeq (kCond g34 kSkip (kExit (nat_lit 0))) (kSeq (kBlock (nat_lit 1) (kSeq (oSet (xLook (lkIxSl (nat_lit 6) g31 g33)) p35 
(oSet (xLook (lkLoadN (nat_lit 6) g35)) p36 
(oSet (xTurn (tnAlloc q34)) p10 
(oDo (xTurn (tnStore (nat_lit 6) g10 g36)) 
oEnd)))) (kSeq (oSet (xLook (lkLoadN (nat_lit 6) g10)) p38 
(oSet (xCall q51 [g38]) p39 
(oSet (xMove g39) p37 
(oSet (xLook (lkExtract (nat_lit 0) g37)) p40 
(oSet (xLook (lkExtract (nat_lit 1) g37)) p41 
(oSet (xMove g40) p11 
(oSet (xMove g41) p12 
oEnd))))))) (oSet (xMove g7) p42 
(oSet (xMove g11) p43 
(oSet (xTurn (tnBuildSlice q52 [((nat_lit 0), (nat_lit 1), g42), ((nat_lit 1), (nat_lit 1), g43)] (nat_lit 2))) p44 
(oSet (xCall q53 [g44]) p45 
(oSet (xMove g45) p7 
oEnd)))))))) (oSet (xLook (lkBin .add g33 q16)) p46 
(oSet (xMove g46) p33 
oEnd)))))))) (kSeq (oSet (xMove g7) p47 
(oSet (xMove g47) p2 
(oSet (xMove q10) p3 
oEnd))) kRet)))))))⟩
def q54 : OpdF := kC (.func (.func (nat_lit 25)) ⟨[]⟩ ⟨[]⟩)
def q55 : List Value := [(.pointer none), (.bool false)]
def q56 : OpdF := kC (.func (.func (nat_lit 26)) ⟨[]⟩ ⟨[]⟩)
def q57 : OpdF := kC (.func (.func (nat_lit 27)) ⟨[]⟩ ⟨[]⟩)
def q58 : OpdF := kC (.func (.func (nat_lit 28)) ⟨[]⟩ ⟨[]⟩)
noncomputable def k14 : KFun := ⟨[rTmp (nat_lit 2) g2, rTmp (nat_lit 3) g3], (kSeq (oSet (xTurn (tnBox g0)) p1 
(oSet (xMove q12) p2 
(oSet (xMove q10) p3 
oEnd))) (kSeq (kDraw 
(dLook (nat_lit 0) [] [] (lkLoadN (nat_lit 10) g1) p7 
(dTurn (nat_lit 1) [] [] true (xCall q54 [g7]) p8 
(dLook (nat_lit 2) [] [] (lkFieldAddr (nat_lit 0) g1) p9 
(dLook (nat_lit 3) [(nat_lit 1)] [] (lkLoad1 g9) p10 
(dTurn (nat_lit 4) [] [] false (xTurn (tnAlloc q6)) p4 
(dTurn (nat_lit 5) [(nat_lit 3)] [(nat_lit 1)] true (xTurn (tnStore (nat_lit 10) g4 g8)) noDst 
(dLook (nat_lit 6) [] [(nat_lit 1), (nat_lit 5)] (lkMove g10) p5 (dEnd [(nat_lit 7), (nat_lit 8), (nat_lit 9), (nat_lit 10), (nat_lit 4), (nat_lit 5)]))))))))) (kSeq (oSet (xCall q48 []) p11 
(oSet (xLook (lkBuild q55 [((nat_lit 0), (nat_lit 1), g11)])) p12 
(oSet (xTurn (tnBox g12)) p13 
(oSet (xMove g13) p6 
oEnd)))) (kSeq (oSet (xMove g6) p14 
(oSet (xLook (lkMkIface (nat_lit 72) g14)) p15 
(oSet (xCall q56 [g15, g4]) p16 
oEnd))) (kSeq (oSet (xMove g6) p17 
(oSet (xLook (lkMkIface (nat_lit 72) g17)) p18 
(oSet (xMove g5) p19 
(oSet (xCall q57 [g18, g19, g4]) p20 
oEnd)))) (kSeq (kSeq (oSet (xMove g6) p21 
(oSet (xNil g21) p22 
(oSet (xLook (lkFieldAddr (nat_lit 1) g22)) p23 
(oSet (xLook (lkLoad1 g23)) p24 
(oSet (xMove g24) p25 
(oSetIf (wantF g25) (xLook (lkLoadN (nat_lit 10) g4)) p26 
(oSetIf (wantF g25) (xMove g5) p27 
(oSetIf (wantF g25) (xCall q58 [g26, g27]) p28 
(oSetIf (wantF g25) (xLook (lkUn .not g28)) p29 
(oSet (xLook (lkPick g25 q30 g29)) p30 
oEnd)))))))))) (kCond g30 (kSeq (oSet (xMove q12) p2 
(oSet (xMove q18) p3 
oEnd)) kRet) kSkip)) (kSeq (oSet (xMove g6) p31 
(oSet (xNil g31) p32 
(oSet (xLook (lkFieldAddr (nat_lit 0) g32)) p33 
(oSet (xLook (lkLoad1 g33)) p34 
(oSet (xCall q50 [g34]) p35 
(oSet (xLook (lkExtract (nat_lit 0) g35)) p36 
(oSet (xLook (lkExtract (nat_lit 1) g35)) p37 
(oSet (xMove g36) p2 
(oSet (xMove g37) p3 
oEnd))))))))) kRet)))))))⟩
def q59 : OpdF := kC (.func (.func (nat_lit 29)) ⟨[]⟩ ⟨[]⟩)
def q60 : OpdF := kC (.func (.func (nat_lit 30)) ⟨[]⟩ ⟨[]⟩)
def q61 : OpdF := kC (.int .i64 (.ofNat (nat_lit 399)))
def q62 : OpdF := kC (.func (.func (nat_lit 31)) ⟨[]⟩ ⟨[]⟩)
def q63 : OpdF := kC (.int .i64 (.ofNat (nat_lit 2000)))
def q64 : OpdF := kC (.int .i64 (.ofNat (nat_lit 9223372036854775807)))
def q65 : OpdF := kC (.func (.func (nat_lit 32)) ⟨[]⟩ ⟨[]⟩)
def q66 : OpdF := kC (.int .i64 (.ofNat (nat_lit 65536)))
def q67 : List Value := [(.string ⟨⟨[]⟩⟩), (.string ⟨⟨[]⟩⟩)]
def q68 : OpdF := kC (.int .i64 (.ofNat (nat_lit 64)))
def q69 : List Value := [(.string ⟨⟨[]⟩⟩), (.string ⟨⟨[]⟩⟩), (.bool false)]
def q70 : OpdF := kC (.func (.func (nat_lit 33)) ⟨[]⟩ ⟨[]⟩)
noncomputable def k15 : KFun := ⟨[rCellN (nat_lit 2) g2 (nat_lit 5), rCellN (nat_lit 3) g3 (nat_lit 2)], (kSeq (oSet (xTurn (tnAlloc q15)) p2 
(oSet (xTurn (tnAlloc q40)) p3 
oEnd)) (kSeq (oSet (xMove g0) p8 
(oSet (xCall q59 [g8]) p9 
(oSet (xMove g9) p4 
oEnd))) (kSeq (oSet (xMove g4) p10 
(oSet (xCall q60 [g10, q10, q61]) p11 
(oSet (xLook (lkBuild q15 [((nat_lit 0), (nat_lit 1), g11)])) p12 
(oSet (xTurn (tnAlloc q15)) p5 
(oDo (xTurn (tnStore (nat_lit 5) g5 g12)) 
oEnd))))) (kSeq (kSeq (oSet (xLook (lkFieldAddr (nat_lit 0) g5)) p13 
(oSet (xLook (lkLoad1 g13)) p14 
(oSet (xLook (lkEq false .int g14 q10)) p15 
oEnd))) (kCond g15 (kSeq (kSeq (oSet (xMove g4) p16 
(oSet (xCall q62 [g16, q63]) p17 
(oSet (xMove q10) p18 
oEnd))) (kBlock (nat_lit 0) (kLoop (kSeq (oSet (xLook (lkBin .lss g18 g17)) p19 
oEnd) (kSeq (kCond g19 kSkip (kExit (nat_lit 0))) (kSeq (kBlock (nat_lit 1) (kDraw 
(dLook (nat_lit 0) [] [] (lkFieldAddr (nat_lit 1) g5) p20 
(dLook (nat_lit 1) [] [] (lkLoad1 g20) p21 
(dLook (nat_lit 2) [] [] (lkMove g4) p22 
(dTurn (nat_lit 3) [(nat_lit 1)] [] true (xCall q60 [g22, q10, q64]) p23 
(dTurn (nat_lit 4) [] [(nat_lit 3)] false (xTurn (tnBuildSlice q9 [((nat_lit 0), (nat_lit 1), g23)] (nat_lit 1))) p24 
(dTurn (nat_lit 5) [] [(nat_lit 3)] true (xTurn (tnAppend (nat_lit 1) g21 g24)) p25 
(dLook (nat_lit 6) [] [(nat_lit 3), (nat_lit 5)] (lkFieldAddr (nat_lit 1) g5) p26 
(dTurn (nat_lit 7) [] [(nat_lit 3), (nat_lit 5)] true (xTurn (tnStore (nat_lit 1) g26 g25)) noDst (dEnd [(nat_lit 20), (nat_lit 21), (nat_lit 22), (nat_lit 23), (nat_lit 24), (nat_lit 25), (nat_lit 26)]))))))))))) (oSet (xLook (lkBin .add g18 q16)) p27 
(oSet (xMove g27) p18 
oEnd)))))))) (kSeq (kSeq (oSet (xMove g4) p28 
(oSet (xCall q62 [g28, q63]) p29 
(oSet (xMove q10) p30 
oEnd))) (kBlock (nat_lit 2) (kLoop (kSeq (oSet (xLook (lkBin .lss g30 g29)) p31 
oEnd) (kSeq (kCond g31 kSkip (kExit (nat_lit 2))) (kSeq (kBlock (nat_lit 3) (kDraw 
(dLook (nat_lit 0) [] [] (lkFieldAddr (nat_lit 2) g5) p32 
(dLook (nat_lit 1) [] [] (lkLoad1 g32) p33 
(dLook (nat_lit 2) [] [] (lkMove g4) p34 
(dTurn (nat_lit 3) [(nat_lit 1)] [] true (xCall q65 [g34, q66]) p35 
(dTurn (nat_lit 4) [] [(nat_lit 3)] false (xTurn (tnBuildSlice q5 [((nat_lit 0), (nat_lit 1), g35)] (nat_lit 1))) p36 
(dTurn (nat_lit 5) [] [(nat_lit 3)] true (xTurn (tnAppend (nat_lit 1) g33 g36)) p37 
(dLook (nat_lit 6) [] [(nat_lit 3), (nat_lit 5)] (lkFieldAddr (nat_lit 2) g5) p38 
(dTurn (nat_lit 7) [] [(nat_lit 3), (nat_lit 5)] true (xTurn (tnStore (nat_lit 1) g38 g37)) noDst (dEnd [(nat_lit 32), (nat_lit 33), (nat_lit 34), (nat_lit 35), (nat_lit 36), (nat_lit 37), (nat_lit 38)]))))))))))) (oSet (xLook (lkBin .add g30 q16)) p39 
(oSet (xMove g39) p30 
oEnd)))))))) (kSeq (kSeq (oSet (xMove g4) p40 
(oSet (xCall q62 [g40, q63]) p41 
(oSet (xMove q10) p42 
oEnd))) (kBlock (nat_lit 4) (kLoop (kSeq (oSet (xLook (lkBin .lss g42 g41)) p43 
oEnd) (kSeq (kCond g43 kSkip (kExit (nat_lit 4))) (kSeq (kBlock (nat_lit 5) (kDraw 
(dLook (nat_lit 0) [] [] (lkFieldAddr (nat_lit 3) g5) p44 
(dLook (nat_lit 1) [] [] (lkLoad1 g44) p45 
(dLook (nat_lit 2) [] [] (lkMove g4) p46 
(dTurn (nat_lit 3) [(nat_lit 1)] [] true (xCall q65 [g46, q68]) p47 
(dLook (nat_lit 4) [] [] (lkMove g4) p48 
(dTurn (nat_lit 5) [(nat_lit 1)] [(nat_lit 3)] true (xCall q65 [g48, q68]) p49 
(dLook (nat_lit 6) [] [(nat_lit 3), (nat_lit 5)] (lkBuild q67 [((nat_lit 0), (nat_lit 1), g47), ((nat_lit 1), (nat_lit 1), g49)]) p50 
(dTurn (nat_lit 7) [] [(nat_lit 3), (nat_lit 5)] false (xTurn (tnBuildSlice q67 [((nat_lit 0), (nat_lit 2), g50)] (nat_lit 1))) p51 
(dTurn (nat_lit 8) [] [(nat_lit 3), (nat_lit 5)] true (xTurn (tnAppend (nat_lit 2) g45 g51)) p52 
(dLook (nat_lit 9) [] [(nat_lit 3), (nat_lit 5), (nat_lit 8)] (lkFieldAddr (nat_lit 3) g5) p53 
(dTurn (nat_lit 10) [] [(nat_lit 3), (nat_lit 5), (nat_lit 8)] true (xTurn (tnStore (nat_lit 1) g53 g52)) noDst (dEnd [(nat_lit 44), (nat_lit 45), (nat_lit 46), (nat_lit 47), (nat_lit 48), (nat_lit 49), (nat_lit 50), (nat_lit 51), (nat_lit 52), (nat_lit 53)])))))))))))))) (oSet (xLook (lkBin .add g42 q16)) p54 
(oSet (xMove g54) p42 
oEnd)))))))) (kSeq (oSet (xMove g4) p55 
(oSet (xCall q62 [g55, q63]) p56 
(oSet (xMove q10) p57 
oEnd))) (kBlock (nat_lit 6) (kLoop (kSeq (oSet (xLook (lkBin .lss g57 g56)) p58 
oEnd) (kSeq (kCond g58 kSkip (kExit (nat_lit 6))) (kSeq (kBlock (nat_lit 7) (kSeq (oSet (xMove g4) p59 
(oSet (xCall q65 [g59, q68]) p60 
(oSet (xMove g4) p61 
(oSet (xCall q60 [g61, q10, q16]) p62 
(oSet (xLook (lkEq false .int g62 q16)) p63 
(oSet (xLook (lkBuild q69 [((nat_lit 0), (nat_lit 1), g60), ((nat_lit 2), (nat_lit 1), g63)])) p64 
(oSet (xTurn (tnAlloc q69)) p6 
(oDo (xTurn (tnStore (nat_lit 3) g6 g64)) 
oEnd)))))))) (kSeq (kSeq (oSet (xLook (lkFieldAddr (nat_lit 2) g6)) p65 
(oSet (xLook (lkLoad1 g65)) p66 
(oSet (xLook (lkUn .not g66)) p67 
oEnd))) (kCond g67 (oSet (xMove g4) p68 
(oSet (xCall q65 [g68, q68]) p69 
(oSet (xLook (lkFieldAddr (nat_lit 1) g6)) p70 
(oDo (xTurn (tnStore (nat_lit 1) g70 g69)) 
oEnd)))) kSkip)) (oSet (xLook (lkFieldAddr (nat_lit 4) g5)) p71 
(oSet (xLook (lkLoad1 g71)) p72 
(oSet (xLook (lkLoadN (nat_lit 3) g6)) p73 
(oSet (xTurn (tnBuildSlice q69 [((nat_lit 0), (nat_lit 3), g73)] (nat_lit 1))) p74 
(oSet (xTurn (tnAppend (nat_lit 3) g72 g74)) p75 
(oSet (xLook (lkFieldAddr (nat_lit 4) g5)) p76 
(oDo (xTurn (tnStore (nat_lit 1) g76 g75)) 
oEnd)))))))))) (oSet (xLook (lkBin .add g57 q16)) p77 
(oSet (xMove g77) p57 
oEnd))))))))))) kSkip)) (kSeq (kSeq (oSet (xMove g4) p78 
(oSet (xCall q70 [g78]) p79 
(oSet (xTurn (tnAlloc q40)) p7 
(oDo (xTurn (tnStore (nat_lit 2) g7 g79)) 
oEnd)))) (kSeq (oSet (xLook (lkFieldAddr (nat_lit 0) g7)) p80 
(oSet (xLook (lkLoad1 g80)) p81 
(oSet (xLook (lkEq true .int g81 q10)) p82 
oEnd))) (kCond g82 (kSeq (kDraw 
(dLook (nat_lit 0) [] [] (lkBuild q15 []) p83 
(dLook (nat_lit 1) [] [] (lkLoadN (nat_lit 2) g7) p84 
(dTurn (nat_lit 2) [(nat_lit 1)] [] true (xTurn (tnStore (nat_lit 5) g2 g83)) noDst 
(dTurn (nat_lit 3) [] [(nat_lit 2)] true (xTurn (tnStore (nat_lit 2) g3 g84)) noDst (dEnd [(nat_lit 83), (nat_lit 84)])))))) kRet) kSkip))) (kSeq (oSet (xLook (lkLoadN (nat_lit 5) g5)) p85 
(oSet (xLook (lkBuild q40 [])) p86 
(oDo (xTurn (tnStore (nat_lit 5) g2 g85)) 
(oDo (xTurn (tnStore (nat_lit 2) g3 g86)) 
oEnd)))) kRet))))))⟩
def q71 : OpdF := kC (.func (.func (nat_lit 34)) ⟨[]⟩ ⟨[]⟩)
def q72 : OpdF := kC (.func (.func (nat_lit 35)) ⟨[]⟩ ⟨[]⟩)
def q73 : OpdF := kC (.func (.func (nat_lit 36)) ⟨[]⟩ ⟨[]⟩)
noncomputable def k16 : KFun := ⟨[rTmp (nat_lit 4) g4], (kSeq (oSet (xMove q12) p4 
oEnd) (kSeq (kSeq (oSet (xMove g0) p10 
(oSet (xLook (lkEq false .ptr g10 q2)) p11 
(oSet (xMove g11) p12 
(oSetIf (wantF g12) (xMove g0) p13 
(oSetIf (wantF g12) (xNil g13) p14 
(oSetIf (wantF g12) (xLook (lkFieldAddr (nat_lit 1) g14)) p15 
(oSetIf (wantF g12) (xLook (lkLoad1 g15)) p16 
(oSetIf (wantF g12) (xLook (lkUn .not g16)) p17 
(oSet (xLook (lkPick g12 q30 g17)) p18 
oEnd))))))))) (kCond g18 (kSeq (oSet (xMove q12) p4 
oEnd) kRet) kSkip)) (kSeq (oSet (xMove g1) p20 
(oSet (xCall q71 [g20]) p21 
(oSet (xMove g21) p19 
(oSet (xLook (lkExtract (nat_lit 0) g19)) p22 
(oSet (xLook (lkExtract (nat_lit 1) g19)) p23 
(oSet (xTurn (tnAlloc q6)) p5 
(oSet (xTurn (tnAlloc q40)) p6 
(oDo (xTurn (tnStore (nat_lit 10) g5 g22)) 
(oDo (xTurn (tnStore (nat_lit 2) g6 g23)) 
oEnd))))))))) (kSeq (oSet (xLook (lkFieldAddr (nat_lit 0) g6)) p24 
(oSet (xLook (lkLoad1 g24)) p25 
(oSet (xLook (lkBuild q15 [((nat_lit 0), (nat_lit 1), g25)])) p26 
(oSet (xTurn (tnAlloc q15)) p7 
(oDo (xTurn (tnStore (nat_lit 5) g7 g26)) 
oEnd))))) (kSeq (kSeq (oSet (xLook (lkFieldAddr (nat_lit 0) g6)) p27 
(oSet (xLook (lkLoad1 g27)) p28 
(oSet (xLook (lkEq false .int g28 q10)) p29 
oEnd))) (kCond g29 (oSet (xMove g0) p30 
(oSet (xLook (lkLoadN (nat_lit 10) g5)) p31 
(oSet (xCall q72 [g30, g31]) p32 
(oDo (xTurn (tnStore (nat_lit 5) g7 g32)) 
oEnd)))) kSkip)) (kSeq (oSet (xLook (lkLoadN (nat_lit 5) g7)) p34 
(oSet (xCall q73 [g34]) p35 
(oSet (xMove g35) p33 
(oSet (xLook (lkExtract (nat_lit 0) g33)) p36 
(oSet (xLook (lkExtract (nat_lit 1) g33)) p37 
(oSet (xMove g36) p8 
(oSet (xMove g37) p9 
oEnd))))))) (kSeq (oSet (xMove g8) p38 
(oSet (xMove g38) p4 
oEnd)) kRet)))))))⟩
def q74 : OpdF := kC (.int .i64 (.ofNat (nat_lit 16)))
noncomputable def k17d0 : KD := 
(dLook (nat_lit 18) [] [(nat_lit 2)] (lkPick g24 q30 g37) p38 (dEnd [(nat_lit 20), (nat_lit 21), (nat_lit 22), (nat_lit 23), (nat_lit 24), (nat_lit 25), (nat_lit 26), (nat_lit 27), (nat_lit 28), (nat_lit 29), (nat_lit 30), (nat_lit 31), (nat_lit 32), (nat_lit 33), (nat_lit 34), (nat_lit 35), (nat_lit 36), (nat_lit 37), (nat_lit 38)]))
noncomputable def k17d1 : KD := 
(dIf [(nat_lit 2)] (wantF g24) p37 (dLook (nat_lit 17) [] [(nat_lit 2)] (lkPick g27 g36 q0) p37 k17d0) k17d0)
noncomputable def k17d2 : KD := 
(dIf [(nat_lit 2)] (wantT g27) p36 (dLook (nat_lit 16) [] [(nat_lit 2)] (lkBin .geq g33 g35) p36 k17d1) k17d1)
noncomputable def k17d3 : KD := 
(dIf [(nat_lit 2)] (wantT g27) p35 (dLook (nat_lit 15) [] [(nat_lit 2)] (lkLoad1 g34) p35 k17d2) k17d2)
noncomputable def k17d4 : KD := 
(dIf [(nat_lit 2)] (wantT g27) p34 (dLook (nat_lit 14) [] [(nat_lit 2)] (lkFieldAddr (nat_lit 0) g5) p34 k17d3) k17d3)
noncomputable def k17d5 : KD := 
(dIf [(nat_lit 2)] (wantT g27) p33 (dLook (nat_lit 13) [] [(nat_lit 2)] (lkLoad1 g32) p33 k17d4) k17d4)
noncomputable def k17d6 : KD := 
(dIf [(nat_lit 2)] (wantT g27) p32 (dLook (nat_lit 12) [] [(nat_lit 2)] (lkFieldAddr (nat_lit 0) g31) p32 k17d5) k17d5)
noncomputable def k17d7 : KD := 
(dIf [(nat_lit 2)] (wantT g27) p31 (dLook (nat_lit 11) [] [(nat_lit 2)] (lkIxSl (nat_lit 2) g28 g30) p31 k17d6) k17d6)
noncomputable def k17d8 : KD := 
(dIf [(nat_lit 2)] (wantT g27) p30 (dLook (nat_lit 10) [] [(nat_lit 2)] (lkBin .sub g29 q16) p30 k17d7) k17d7)
noncomputable def k17d9 : KD := 
(dIf [(nat_lit 2)] (wantT g27) p29 (dLook (nat_lit 9) [] [(nat_lit 2)] (lkMove g4) p29 k17d8) k17d8)
noncomputable def k17d10 : KD := 
(dIf [(nat_lit 2)] (wantT g27) p28 (dLook (nat_lit 8) [] [(nat_lit 2)] (lkMove g0) p28 k17d9) k17d9)
noncomputable def k17d11 : KD := 
(dIf [(nat_lit 2)] (wantF g24) p27 (dLook (nat_lit 7) [] [(nat_lit 2)] (lkMove g26) p27 k17d10) k17d10)
noncomputable def k17d12 : KD := 
(dIf [(nat_lit 2)] (wantF g24) p26 (dLook (nat_lit 6) [] [(nat_lit 2)] (lkBin .gtr g25 q10) p26 k17d11) k17d11)
def q75 : OpdF := kC (.func (.func (nat_lit 37)) ⟨[]⟩ ⟨[]⟩)
def q76 : OpdF := kC (.int .i64 (.ofNat (nat_lit 500)))
noncomputable def k17 : KFun := ⟨[rTmp (nat_lit 2) g2, rTmp (nat_lit 3) g3], (kSeq (oSet (xMove q10) p2 
(oSet (xMove q10) p3 
oEnd)) (kSeq (kSeq (oSet (xMove g0) p10 
(oSet (xLook (lkLen .sl g10)) p11 
(oSet (xLook (lkBin .gtr g11 q74)) p12 
oEnd))) (kCond g12 (kSeq (oSet (xMove q7) p2 
(oSet (xMove q74) p3 
oEnd)) kRet) kSkip)) (kSeq (kSeq (oSet (xMove g0) p13 
(oSet (xLook (lkLen .sl g13)) p14 
(oSet (xMove q10) p15 
oEnd))) (kBlock (nat_lit 0) (kLoop (kSeq (oSet (xLook (lkBin .lss g15 g14)) p16 
oEnd) (kSeq (kCond g16 kSkip (kExit (nat_lit 0))) (kSeq (kBlock (nat_lit 1) (kSeq (oSet (xMove g15) p17 
(oSet (xLook (lkIxSl (nat_lit 2) g13 g15)) p18 
(oSet (xLook (lkLoadN (nat_lit 2) g18)) p19 
(oSet (xTurn (tnAlloc q24)) p5 
(oSet (xMove g17) p4 
(oDo (xTurn (tnStore (nat_lit 2) g5 g19)) 
oEnd)))))) (kSeq (kSeq (kDraw 
(dLook (nat_lit 0) [] [] (lkFieldAddr (nat_lit 0) g5) p20 
(dLook (nat_lit 1) [] [] (lkLoad1 g20) p21 
(dTurn (nat_lit 2) [] [] true (xCall q75 [g21]) p22 
(dLook (nat_lit 3) [] [(nat_lit 2)] (lkUn .not g22) p23 
(dLook (nat_lit 4) [] [(nat_lit 2)] (lkMove g23) p24 
(dIf [(nat_lit 2)] (wantF g24) p25 (dLook (nat_lit 5) [] [(nat_lit 2)] (lkMove g4) p25 k17d12) k17d12))))))) (kCond g38 (kSeq (oSet (xMove g4) p39 
(oSet (xMove q18) p2 
(oSet (xMove g39) p3 
oEnd))) kRet) kSkip)) (kSeq (kSeq (oSet (xLook (lkFieldAddr (nat_lit 1) g5)) p40 
(oSet (xLook (lkLoad1 g40)) p41 
(oSet (xLook (lkLen .sl g41)) p42 
(oSet (xLook (lkBin .gtr g42 q76)) p43 
oEnd)))) (kCond g43 (kSeq (oSet (xMove g4) p44 
(oSet (xMove q7) p2 
(oSet (xMove g44) p3 
oEnd))) kRet) kSkip)) (kSeq (oSet (xLook (lkFieldAddr (nat_lit 1) g5)) p45 
(oSet (xLook (lkLoad1 g45)) p46 
(oSet (xLook (lkLen .sl g46)) p47 
(oSet (xMove q10) p48 
oEnd)))) (kBlock (nat_lit 2) (kLoop (kSeq (oSet (xLook (lkBin .lss g48 g47)) p49 
oEnd) (kSeq (kCond g49 kSkip (kExit (nat_lit 2))) (kSeq (kBlock (nat_lit 3) (kSeq (oSet (xLook (lkIxSl (nat_lit 1) g46 g48)) p50 
(oSet (xLook (lkLoad1 g50)) p51 
(oSet (xMove g51) p7 
oEnd))) (kSeq (oSet (xMove g7) p53 
(oSet (xCall q47 [g53]) p54 
(oSet (xMove g54) p52 
(oSet (xLook (lkExtract (nat_lit 0) g52)) p55 
(oSet (xLook (lkExtract (nat_lit 1) g52)) p56 
(oSet (xMove g55) p8 
(oSet (xMove g56) p9 
oEnd))))))) (kSeq (oSet (xMove g8) p57 
(oSet (xLook (lkEq true .int g57 q10)) p58 
oEnd)) (kCond g58 (kSeq (oSet (xMove g8) p59 
(oSet (xMove g4) p60 
(oSet (xMove g59) p2 
(oSet (xMove g60) p3 
oEnd)))) kRet) kSkip))))) (oSet (xLook (lkBin .add g48 q16)) p61 
(oSet (xMove g61) p48 
oEnd)))))))))))) (oSet (xLook (lkBin .add g15 q16)) p62 
(oSet (xMove g62) p15 
oEnd)))))))) (kSeq (oSet (xMove q10) p2 
(oSet (xMove q10) p3 
oEnd)) kRet))))⟩
def q77 : List Value := [(.slice none (nat_lit 0) (nat_lit 0))]
def q78 : OpdF := kC (.func (.func (nat_lit 38)) ⟨[]⟩ ⟨[]⟩)
def q79 : OpdF := kC (.int .i64 (.ofNat (nat_lit 60)))
def q80 : OpdF := kC (.func (.func (nat_lit 39)) ⟨[]⟩ ⟨[]⟩)
def q81 : OpdF := kC (.func (.func (nat_lit 40)) ⟨[]⟩ ⟨[]⟩)
def q82 : OpdF := kC (.func (.func (nat_lit 41)) ⟨[]⟩ ⟨[]⟩)
def q83 : OpdF := kC (.func (.func (nat_lit 42)) ⟨[]⟩ ⟨[]⟩)
def q84 : OpdF := kC (.int .i64 (.ofNat (nat_lit 512)))
noncomputable def k19 : KFun := ⟨[rTmp (nat_lit 2) g2, rTmp (nat_lit 3) g3], (kSeq (oSet (xMove q10) p2 
(oSet (xMove q10) p3 
oEnd)) (kSeq (kSeq (oSet (xMove g0) p10 
(oSet (xLook (lkLen .sl g10)) p11 
(oSet (xLook (lkBin .gtr g11 q79)) p12 
oEnd))) (kCond g12 (kSeq (oSet (xMove q7) p2 
(oSet (xMove q79) p3 
oEnd)) kRet) kSkip)) (kSeq (kSeq (oSet (xMove g0) p13 
(oSet (xLook (lkLen .sl g13)) p14 
(oSet (xMove q10) p15 
oEnd))) (kBlock (nat_lit 0) (kLoop (kSeq (oSet (xLook (lkBin .lss g15 g14)) p16 
oEnd) (kSeq (kCond g16 kSkip (kExit (nat_lit 0))) (kSeq (kBlock (nat_lit 1) (kSeq (oSet (xMove g15) p17 
(oSet (xLook (lkIxSl (nat_lit 6) g13 g15)) p18 
(oSet (xLook (lkLoadN (nat_lit 6) g18)) p19 
(oSet (xTurn (tnAlloc q34)) p5 
(oSet (xMove g17) p4 
(oDo (xTurn (tnStore (nat_lit 6) g5 g19)) 
oEnd)))))) (kSeq (oSet (xLook (lkLoadN (nat_lit 6) g5)) p20 
(oSet (xCall q80 [g20]) p21 
(oSet (xLook (lkEq true .int g21 q10)) p22 
oEnd))) (kCond g22 (kSeq (oSet (xMove g4) p23 
(oSet (xMove q18) p2 
(oSet (xMove g23) p3 
oEnd))) kRet) kSkip)))) (oSet (xLook (lkBin .add g15 q16)) p24 
(oSet (xMove g24) p15 
oEnd)))))))) (kSeq (kSeq (oSet (xMove g0) p25 
(oSet (xCall q81 [g25]) p26 
(oSet (xMove g26) p6 
oEnd))) (kSeq (oSet (xMove g6) p27 
(oSet (xLook (lkBin .geq g27 q10)) p28 
oEnd)) (kCond g28 (kSeq (oSet (xMove g6) p29 
(oSet (xMove q19) p2 
(oSet (xMove g29) p3 
oEnd))) kRet) kSkip))) (kSeq (oSet (xMove g0) p30 
(oSet (xLook (lkLen .sl g30)) p31 
(oSet (xCall q82 [g31]) p32 
(oSet (xMove g32) p7 
oEnd)))) (kSeq (kSeq (oSet (xMove g0) p33 
(oSet (xLook (lkLen .sl g33)) p34 
(oSet (xMove q10) p35 
oEnd))) (kBlock (nat_lit 2) (kLoop (kSeq (oSet (xLook (lkBin .lss g35 g34)) p36 
oEnd) (kSeq (kCond g36 kSkip (kExit (nat_lit 2))) (kSeq (kBlock (nat_lit 3) (kSeq (oSet (xMove g35) p37 
(oSet (xLook (lkIxSl (nat_lit 6) g33 g35)) p38 
(oSet (xLook (lkLoadN (nat_lit 6) g38)) p39 
(oSet (xTurn (tnAlloc q34)) p9 
(oSet (xMove g37) p8 
(oDo (xTurn (tnStore (nat_lit 6) g9 g39)) 
oEnd)))))) (kSeq (oSet (xMove g7) p40 
(oSet (xLook (lkLoadN (nat_lit 6) g9)) p41 
(oSet (xCall q83 [g41]) p42 
(oSet (xLook (lkBin .add g40 g42)) p43 
(oSet (xMove g43) p7 
oEnd))))) (kSeq (oSet (xMove g7) p44 
(oSet (xLook (lkBin .gtr g44 q84)) p45 
oEnd)) (kCond g45 (kSeq (oSet (xMove g8) p46 
(oSet (xMove q7) p2 
(oSet (xMove g46) p3 
oEnd))) kRet) kSkip))))) (oSet (xLook (lkBin .add g35 q16)) p47 
(oSet (xMove g47) p35 
oEnd)))))))) (kSeq (oSet (xMove q10) p2 
(oSet (xMove q10) p3 
oEnd)) kRet)))))))⟩
def q85 : List Value := [(.bool false), (.slice none (nat_lit 0) (nat_lit 0)), (.int .i64 (.ofNat (nat_lit 0))), (.int .i64 (.ofNat (nat_lit 0)))]
noncomputable def k20 : KFun := ⟨[rTmp (nat_lit 0) g0], (kSeq (oSet (xMove q2) p0 
oEnd) (kSeq (oSet (xLook (lkBuild q85 [((nat_lit 0), (nat_lit 1), q30)])) p1 
(oSet (xLook (lkBuild q85 [((nat_lit 0), (nat_lit 4), g1)])) p2 
(oSet (xTurn (tnBox g2)) p3 
(oSet (xMove g3) p0 
oEnd)))) kRet))⟩
def q86 : OpdF := kC (.func (.func (nat_lit 43)) ⟨[]⟩ ⟨[]⟩)
def q87 : OpdF := kC (.int .i64 (.ofNat (nat_lit 127)))
def q88 : OpdF := kC (.int .i64 (.ofNat (nat_lit 128)))
def q89 : List Value := [(.int .u8 (.ofNat (nat_lit 0)))]
def q90 : OpdF := kC (.int .u64 (.ofNat (nat_lit 7)))
noncomputable def k21 : KFun := ⟨[], (kSeq (kSeq (oSet (xMove g0) p4 
(oSet (xCall q86 [g4]) p5 
oEnd)) (kCond g5 kRet kSkip)) (kSeq (kSeq (oSet (xMove g1) p6 
(oSet (xLook (lkBin .lss g6 q10)) p7 
oEnd)) (kCond g7 (kSeq (oSet (xMove g0) p8 
(oSet (xNil g8) p9 
(oSet (xLook (lkFieldAddr (nat_lit 0) g9)) p10 
(oSet (xLook (lkFieldAddr (nat_lit 2) g10)) p11 
(oSet (xLook (lkFieldAddr (nat_lit 0) g11)) p12 
(oDo (xTurn (tnStore (nat_lit 1) g12 q19)) 
oEnd)))))) kRet) kSkip)) (kSeq (kBlock (nat_lit 0) (kLoop (kSeq (kSeq (oSet (xMove g1) p13 
(oSet (xLook (lkBin .gtr g13 q87)) p14 
oEnd)) (kCond g14 kSkip (kExit (nat_lit 0)))) (kSeq (kBlock (nat_lit 1) (oSet (xMove g0) p17 
(oSet (xMove g0) p18 
(oSet (xNil g18) p19 
(oSet (xLook (lkFieldAddr (nat_lit 0) g19)) p20 
(oSet (xLook (lkFieldAddr (nat_lit 1) g20)) p21 
(oSet (xLook (lkLoad1 g21)) p22 
(oSet (xMove g1) p23 
(oSet (xLook (lkBin .and g23 q87)) p24 
(oSet (xLook (lkBin .or g24 q88)) p25 
(oSet (xLook (lkIntTo .u8 g25)) p26 
(oSet (xTurn (tnBuildSlice q89 [((nat_lit 0), (nat_lit 1), g26)] (nat_lit 1))) p27 
(oSet (xTurn (tnAppend (nat_lit 1) g22 g27)) p28 
(oSet (xNil g17) p29 
(oSet (xLook (lkFieldAddr (nat_lit 0) g29)) p30 
(oSet (xLook (lkFieldAddr (nat_lit 1) g30)) p31 
(oDo (xTurn (tnStore (nat_lit 1) g31 g28)) 
oEnd))))))))))))))))) (oSet (xMove g1) p15 
(oSet (xLook (lkBin .shr g15 q90)) p16 
(oSet (xMove g16) p1 
oEnd))))))) (oSet (xMove g0) p32 
(oSet (xMove g0) p33 
(oSet (xNil g33) p34 
(oSet (xLook (lkFieldAddr (nat_lit 0) g34)) p35 
(oSet (xLook (lkFieldAddr (nat_lit 1) g35)) p36 
(oSet (xLook (lkLoad1 g36)) p37 
(oSet (xMove g1) p38 
(oSet (xLook (lkIntTo .u8 g38)) p39 
(oSet (xTurn (tnBuildSlice q89 [((nat_lit 0), (nat_lit 1), g39)] (nat_lit 1))) p40 
(oSet (xTurn (tnAppend (nat_lit 1) g37 g40)) p41 
(oSet (xNil g32) p42 
(oSet (xLook (lkFieldAddr (nat_lit 0) g42)) p43 
(oSet (xLook (lkFieldAddr (nat_lit 1) g43)) p44 
(oDo (xTurn (tnStore (nat_lit 1) g44 g41)) 
oEnd)))))))))))))))))⟩
noncomputable def k22 : KFun := ⟨[rTmp (nat_lit 2) g2, rTmp (nat_lit 3) g3], (kSeq (oSet (xMove q12) p2 
(oSet (xMove q10) p3 
oEnd)) (kSeq (kBlock (nat_lit 0) (kSeq (oSet (xMove g0) p5 
(oSet (xCall q86 [g5]) p6 
(oSet (xMove g6) p4 
oEnd))) (kCond g4 (kSeq (oSet (xMove q12) p2 
(oSet (xMove q16) p3 
oEnd)) kRet) (kSeq (oSet (xMove g0) p8 
(oSet (xNil g8) p9 
(oSet (xLook (lkFieldAddr (nat_lit 0) g9)) p10 
(oSet (xLook (lkFieldAddr (nat_lit 2) g10)) p11 
(oSet (xLook (lkFieldAddr (nat_lit 0) g11)) p12 
(oSet (xLook (lkLoad1 g12)) p13 
(oSet (xLook (lkEq true .int g13 q10)) p14 
(oSet (xMove g14) p7 
oEnd)))))))) (kCond g7 (kSeq (kDraw 
(dLook (nat_lit 0) [] [] (lkMove g0) p15 
(dTurn (nat_lit 1) [] [] false (xNil g15) p16 
(dLook (nat_lit 2) [] [] (lkFieldAddr (nat_lit 0) g16) p17 
(dLook (nat_lit 3) [] [] (lkFieldAddr (nat_lit 2) g17) p18 
(dLook (nat_lit 4) [] [] (lkFieldAddr (nat_lit 0) g18) p19 
(dLook (nat_lit 5) [] [] (lkLoad1 g19) p20 
(dLook (nat_lit 6) [] [] (lkMove q12) p2 
(dLook (nat_lit 7) [] [] (lkMove g20) p3 (dEnd [(nat_lit 15), (nat_lit 16), (nat_lit 17), (nat_lit 18), (nat_lit 19), (nat_lit 20), (nat_lit 2), (nat_lit 3)])))))))))) kRet) kSkip))))) (kSeq (oSet (xTurn (tnBuildSlice [] [] (nat_lit 0))) p21 
(oSet (xMove g0) p22 
(oSet (xNil g22) p23 
(oSet (xLook (lkFieldAddr (nat_lit 0) g23)) p24 
(oSet (xLook (lkFieldAddr (nat_lit 1) g24)) p25 
(oSet (xLook (lkLoad1 g25)) p26 
(oSet (xTurn (tnAppend (nat_lit 1) g21 g26)) p27 
(oSet (xMove g27) p2 
(oSet (xMove q10) p3 
oEnd))))))))) kRet)))⟩
def q91 : OpdF := kC (.func (.func (nat_lit 44)) ⟨[]⟩ ⟨[]⟩)
def q92 : OpdF := kC (.int .i32 (.ofNat (nat_lit 115)))
def q93 : OpdF := kC (.func (.func (nat_lit 45)) ⟨[]⟩ ⟨[]⟩)
def q94 : OpdF := kC (.func (.func (nat_lit 46)) ⟨[]⟩ ⟨[]⟩)
noncomputable def k23 : KFun := ⟨[rTmp (nat_lit 2) g2, rTmp (nat_lit 3) g3], (kSeq (oSet (xTurn (tnBox g0)) p1 
(oSet (xMove q12) p2 
(oSet (xMove q10) p3 
oEnd))) (kSeq (kSeq (oSet (xLook (lkLoadN (nat_lit 6) g1)) p8 
(oSet (xCall q80 [g8]) p9 
(oSet (xMove g9) p4 
oEnd))) (kSeq (oSet (xMove g4) p10 
(oSet (xLook (lkEq true .int g10 q10)) p11 
oEnd)) (kCond g11 (kSeq (oSet (xMove g4) p12 
(oSet (xMove q12) p2 
(oSet (xMove g12) p3 
oEnd))) kRet) kSkip))) (kSeq (oSet (xCall q48 []) p13 
(oSet (xMove g13) p5 
oEnd)) (kSeq (oSet (xMove g5) p14 
(oSet (xLook (lkFieldAddr (nat_lit 0) g1)) p15 
(oSet (xLook (lkLoad1 g15)) p16 
(oSet (xCall q49 [g14, g16]) p17 
oEnd)))) (kSeq (kSeq (oSet (xLook (lkFieldAddr (nat_lit 0) g1)) p18 
(oSet (xLook (lkLoad1 g18)) p19 
(oSet (xCall q91 [g19]) p20 
(oSet (xTurn (tnRangeStr g20)) p21 
oEnd)))) (kBlock (nat_lit 0) (kLoop (kSeq (oSet (xTurn (tnNextStr g21)) p22 
(oSet (xLook (lkExtract (nat_lit 0) g22)) p23 
oEnd)) (kSeq (kCond g23 kSkip (kExit (nat_lit 0))) (kBlock (nat_lit 1) (kSeq (oSet (xLook (lkExtract (nat_lit 2) g22)) p24 
(oSet (xMove g24) p7 
oEnd)) (kSeq (oSet (xMove g7) p25 
(oSet (xLook (lkEq false .int g25 q92)) p26 
oEnd)) (kCond g26 (oSet (xMove g5) p27 
(oSet (xLook (lkFieldAddr (nat_lit 5) g1)) p28 
(oSet (xLook (lkLoad1 g28)) p29 
(oSet (xCall q93 [g27, g29]) p30 
oEnd)))) (oSet (xMove g5) p31 
(oSet (xMove g7) p32 
(oSet (xCall q94 [g1, g32]) p33 
(oSet (xNil g33) p34 
(oSet (xLook (lkLoad1 g34)) p35 
(oSet (xCall q49 [g31, g35]) p36 
oEnd))))))))))))))) (kSeq (oSet (xMove g5) p37 
(oSet (xCall q50 [g37]) p38 
(oSet (xLook (lkExtract (nat_lit 0) g38)) p39 
(oSet (xLook (lkExtract (nat_lit 1) g38)) p40 
(oSet (xMove g39) p2 
(oSet (xMove g40) p3 
oEnd)))))) kRet))))))⟩
noncomputable def k24 : KFun := ⟨[rTmp (nat_lit 2) g2], (kSeq (oSet (xMove q12) p2 
oEnd) (kSeq (oSet (xMove q12) p3 
oEnd) (kSeq (kSeq (oSet (xMove g0) p6 
(oSet (xLook (lkLen .sl g6)) p7 
(oSet (xMove q10) p8 
oEnd))) (kBlock (nat_lit 0) (kLoop (kSeq (oSet (xLook (lkBin .lss g8 g7)) p9 
oEnd) (kSeq (kCond g9 kSkip (kExit (nat_lit 0))) (kSeq (kBlock (nat_lit 1) (kSeq (oSet (xLook (lkIxSl (nat_lit 1) g6 g8)) p10 
(oSet (xLook (lkLoad1 g10)) p11 
(oSet (xMove g11) p5 
oEnd))) (oSet (xMove g3) p12 
(oSet (xMove g5) p13 
(oSet (xTurn (tnAppend (nat_lit 1) g12 g13)) p14 
(oSet (xMove g14) p3 
oEnd)))))) (oSet (xLook (lkBin .add g8 q16)) p15 
(oSet (xMove g15) p8 
oEnd)))))))) (kSeq (oSet (xMove g3) p16 
(oSet (xMove g16) p2 
oEnd)) kRet))))⟩
noncomputable def k25 : KFun := ⟨[rCellN (nat_lit 2) g2 (nat_lit 10)], (kSeq (oSet (xTurn (tnBox g0)) p1 
(oSet (xTurn (tnAlloc q6)) p2 
oEnd)) (kSeq (oSet (xTurn (tnBuildSlice [] [] (nat_lit 0))) p3 
(oSet (xLook (lkFieldAddr (nat_lit 7) g1)) p4 
(oSet (xLook (lkLoad1 g4)) p5 
(oSet (xTurn (tnAppend (nat_lit 1) g3 g5)) p6 
(oSet (xLook (lkFieldAddr (nat_lit 7) g1)) p7 
(oDo (xTurn (tnStore (nat_lit 1) g7 g6)) 
oEnd)))))) (kSeq (oSet (xTurn (tnBuildSlice [] [] (nat_lit 0))) p8 
(oSet (xLook (lkFieldAddr (nat_lit 8) g1)) p9 
(oSet (xLook (lkLoad1 g9)) p10 
(oSet (xTurn (tnAppend (nat_lit 3) g8 g10)) p11 
(oSet (xLook (lkFieldAddr (nat_lit 8) g1)) p12 
(oDo (xTurn (tnStore (nat_lit 1) g12 g11)) 
oEnd)))))) (kSeq (oSet (xLook (lkLoadN (nat_lit 10) g1)) p13 
(oDo (xTurn (tnStore (nat_lit 10) g2 g13)) 
oEnd)) kRet))))⟩
noncomputable def k26 : KFun := ⟨[], (kDraw 
(dLook (nat_lit 0) [] [] (lkMove g0) p4 
(dLook (nat_lit 1) [] [] (lkMove g1) p5 
(dTurn (nat_lit 2) [] [] false (xNil g5) p6 
(dLook (nat_lit 3) [] [] (lkFieldAddr (nat_lit 0) g6) p7 
(dLook (nat_lit 4) [] [] (lkMkFunc (.method "retcon/order.number") [g4] []) p8 
(dTurn (nat_lit 5) [] [] false (xNil g8) p9 
(dLook (nat_lit 6) [] [] (lkMove g4) p10 
(dTurn (nat_lit 7) [] [] true (xInvoke g10 "retcon/order.number" [g7, q16, q13, q10]) p11 (dEnd [(nat_lit 4), (nat_lit 5), (nat_lit 6), (nat_lit 7), (nat_lit 8), (nat_lit 9), (nat_lit 10), (nat_lit 11)]))))))))))⟩
def q95 : OpdF := kC (.func (.func (nat_lit 47)) ⟨[]⟩ ⟨[]⟩)
def q96 : OpdF := kC (.int .i32 (.ofNat (nat_lit 110)))
def q97 : OpdF := kC (.int .i64 (.ofNat (nat_lit 20)))
def q98 : OpdF := kC (.int .i32 (.ofNat (nat_lit 111)))
def q99 : OpdF := kC (.int .i32 (.ofNat (nat_lit 107)))
def q100 : OpdF := kC (.int .i32 (.ofNat (nat_lit 101)))
def q101 : OpdF := kC (.int .i32 (.ofNat (nat_lit 97)))
def q102 : OpdF := kC (.int .i32 (.ofNat (nat_lit 109)))
def q103 : OpdF := kC (.int .i64 (.ofNat (nat_lit 10)))
def q104 : OpdF := kC (.int .i32 (.ofNat (nat_lit 99)))
def q105 : OpdF := kC (.func (.func (nat_lit 48)) ⟨[]⟩ ⟨[]⟩)
def q106 : OpdF := kC (.int .i32 (.ofNat (nat_lit 120)))
def q107 : OpdF := kC (.func (.func (nat_lit 49)) ⟨[]⟩ ⟨[]⟩)
def q108 : OpdF := kC (.int .i32 (.ofNat (nat_lit 112)))
noncomputable def k27 : KFun := ⟨[], (kSeq (oSet (xMove g2) p8 
(oSet (xMove g1) p9 
(oSet (xNil g8) p10 
(oSet (xLook (lkFieldAddr (nat_lit 0) g10)) p11 
(oDo (xTurn (tnStore (nat_lit 1) g11 g9)) 
oEnd))))) (kSeq (oSet (xMove g1) p12 
(oSet (xCall q95 [g12]) p13 
(oSet (xTurn (tnRangeStr g13)) p14 
oEnd))) (kBlock (nat_lit 0) (kLoop (kSeq (oSet (xTurn (tnNextStr g14)) p15 
(oSet (xLook (lkExtract (nat_lit 0) g15)) p16 
oEnd)) (kSeq (kCond g16 kSkip (kExit (nat_lit 0))) (kBlock (nat_lit 1) (kSeq (oSet (xLook (lkExtract (nat_lit 2) g15)) p17 
(oSet (xMove g17) p7 
oEnd)) (kSeq (oSet (xMove g7) p18 
oEnd) (kBlock (nat_lit 2) (kSeq (oSet (xLook (lkEq false .int g18 q96)) p20 
(oSet (xMove g20) p19 
oEnd)) (kCond g19 (kDraw 
(dLook (nat_lit 0) [] [] (lkMove g0) p21 
(dLook (nat_lit 1) [] [] (lkMove g2) p22 
(dTurn (nat_lit 2) [] [] false (xNil g22) p23 
(dLook (nat_lit 3) [] [] (lkFieldAddr (nat_lit 1) g23) p24 
(dLook (nat_lit 4) [] [] (lkMkFunc (.method "retcon/order.text") [g21] []) p25 
(dTurn (nat_lit 5) [] [] false (xNil g25) p26 
(dLook (nat_lit 6) [] [] (lkMove g21) p27 
(dTurn (nat_lit 7) [] [] true (xInvoke g27 "retcon/order.text" [g24, q97]) p28 (dEnd [(nat_lit 21), (nat_lit 22), (nat_lit 23), (nat_lit 24), (nat_lit 25), (nat_lit 26), (nat_lit 27), (nat_lit 28)])))))))))) (kSeq (oSet (xLook (lkEq false .int g18 q98)) p30 
(oSet (xMove g30) p29 
oEnd)) (kCond g29 (kDraw 
(dLook (nat_lit 0) [] [] (lkMove g0) p31 
(dLook (nat_lit 1) [] [] (lkMove g2) p32 
(dTurn (nat_lit 2) [] [] false (xNil g32) p33 
(dLook (nat_lit 3) [] [] (lkFieldAddr (nat_lit 2) g33) p34 
(dLook (nat_lit 4) [] [] (lkMkFunc (.method "retcon/order.text") [g31] []) p35 
(dTurn (nat_lit 5) [] [] false (xNil g35) p36 
(dLook (nat_lit 6) [] [] (lkMove g31) p37 
(dTurn (nat_lit 7) [] [] true (xInvoke g37 "retcon/order.text" [g34, q97]) p38 (dEnd [(nat_lit 31), (nat_lit 32), (nat_lit 33), (nat_lit 34), (nat_lit 35), (nat_lit 36), (nat_lit 37), (nat_lit 38)])))))))))) (kSeq (oSet (xLook (lkEq false .int g18 q99)) p40 
(oSet (xMove g40) p39 
oEnd)) (kCond g39 (kDraw 
(dLook (nat_lit 0) [] [] (lkMove g0) p41 
(dLook (nat_lit 1) [] [] (lkMove g2) p42 
(dTurn (nat_lit 2) [] [] false (xNil g42) p43 
(dLook (nat_lit 3) [] [] (lkFieldAddr (nat_lit 3) g43) p44 
(dLook (nat_lit 4) [] [] (lkMkFunc (.method "retcon/order.text") [g41] []) p45 
(dTurn (nat_lit 5) [] [] false (xNil g45) p46 
(dLook (nat_lit 6) [] [] (lkMove g41) p47 
(dTurn (nat_lit 7) [] [] true (xInvoke g47 "retcon/order.text" [g44, q68]) p48 (dEnd [(nat_lit 41), (nat_lit 42), (nat_lit 43), (nat_lit 44), (nat_lit 45), (nat_lit 46), (nat_lit 47), (nat_lit 48)])))))))))) (kSeq (oSet (xLook (lkEq false .int g18 q100)) p50 
(oSet (xMove g50) p49 
oEnd)) (kCond g49 (kDraw 
(dLook (nat_lit 0) [] [] (lkMove g0) p51 
(dLook (nat_lit 1) [] [] (lkMove g2) p52 
(dTurn (nat_lit 2) [] [] false (xNil g52) p53 
(dLook (nat_lit 3) [] [] (lkFieldAddr (nat_lit 4) g53) p54 
(dLook (nat_lit 4) [] [] (lkMkFunc (.method "retcon/order.text") [g51] []) p55 
(dTurn (nat_lit 5) [] [] false (xNil g55) p56 
(dLook (nat_lit 6) [] [] (lkMove g51) p57 
(dTurn (nat_lit 7) [] [] true (xInvoke g57 "retcon/order.text" [g54, q68]) p58 (dEnd [(nat_lit 51), (nat_lit 52), (nat_lit 53), (nat_lit 54), (nat_lit 55), (nat_lit 56), (nat_lit 57), (nat_lit 58)])))))))))) (kSeq (oSet (xLook (lkEq false .int g18 q101)) p60 
(oSet (xMove g60) p59 
oEnd)) (kCond g59 (kDraw 
(dLook (nat_lit 0) [] [] (lkMove g0) p61 
(dLook (nat_lit 1) [] [] (lkMove g2) p62 
(dTurn (nat_lit 2) [] [] false (xNil g62) p63 
(dLook (nat_lit 3) [] [] (lkFieldAddr (nat_lit 5) g63) p64 
(dLook (nat_lit 4) [] [] (lkMkFunc (.method "retcon/order.number") [g61] []) p65 
(dTurn (nat_lit 5) [] [] false (xNil g65) p66 
(dLook (nat_lit 6) [] [] (lkMove g61) p67 
(dTurn (nat_lit 7) [] [] true (xInvoke g67 "retcon/order.number" [g64, q41, q76, q16]) p68 (dEnd [(nat_lit 61), (nat_lit 62), (nat_lit 63), (nat_lit 64), (nat_lit 65), (nat_lit 66), (nat_lit 67), (nat_lit 68)])))))))))) (kSeq (oSet (xLook (lkEq false .int g18 q102)) p70 
(oSet (xMove g70) p69 
oEnd)) (kCond g69 (kSeq (oSet (xMove g1) p71 
(oSet (xLook (lkEq false .int g71 q103)) p72 
oEnd)) (kCond g72 (kDraw 
(dLook (nat_lit 0) [] [] (lkMove g0) p73 
(dLook (nat_lit 1) [] [] (lkMove g2) p74 
(dTurn (nat_lit 2) [] [] false (xNil g74) p75 
(dLook (nat_lit 3) [] [] (lkFieldAddr (nat_lit 6) g75) p76 
(dLook (nat_lit 4) [] [] (lkMkFunc (.method "retcon/order.number") [g73] []) p77 
(dTurn (nat_lit 5) [] [] false (xNil g77) p78 
(dLook (nat_lit 6) [] [] (lkMove g73) p79 
(dTurn (nat_lit 7) [] [] true (xInvoke g79 "retcon/order.number" [g76, q16, q74, q10]) p80 (dEnd [(nat_lit 73), (nat_lit 74), (nat_lit 75), (nat_lit 76), (nat_lit 77), (nat_lit 78), (nat_lit 79), (nat_lit 80)])))))))))) (kDraw 
(dLook (nat_lit 0) [] [] (lkMove g0) p81 
(dLook (nat_lit 1) [] [] (lkMove g2) p82 
(dTurn (nat_lit 2) [] [] false (xNil g82) p83 
(dLook (nat_lit 3) [] [] (lkFieldAddr (nat_lit 6) g83) p84 
(dLook (nat_lit 4) [] [] (lkMkFunc (.method "retcon/order.number") [g81] []) p85 
(dTurn (nat_lit 5) [] [] false (xNil g85) p86 
(dLook (nat_lit 6) [] [] (lkMove g81) p87 
(dTurn (nat_lit 7) [] [] true (xInvoke g87 "retcon/order.number" [g84, q41, q76, q16]) p88 (dEnd [(nat_lit 81), (nat_lit 82), (nat_lit 83), (nat_lit 84), (nat_lit 85), (nat_lit 86), (nat_lit 87), (nat_lit 88)])))))))))))) (kSeq (oSet (xLook (lkEq false .int g18 q104)) p90 
(oSet (xMove g90) p89 
oEnd)) (kCond g89 (oSet (xMove g0) p91 
(oSet (xMove g2) p92 
(oSet (xCall q105 [g91, g92]) p93 
oEnd))) (kSeq (oSet (xLook (lkEq false .int g18 q106)) p95 
(oSet (xMove g95) p94 
oEnd)) (kCond g94 (oSet (xMove g0) p96 
(oSet (xMove g2) p97 
(oSet (xCall q107 [g96, g97]) p98 
oEnd))) (kSeq (oSet (xLook (lkEq false .int g18 q108)) p100 
(oSet (xMove g100) p99 
oEnd)) (kCond g99 (kDraw 
(dLook (nat_lit 0) [] [] (lkMove g0) p101 
(dLook (nat_lit 1) [] [] (lkMove g2) p102 
(dTurn (nat_lit 2) [] [] false (xNil g102) p103 
(dLook (nat_lit 3) [] [] (lkFieldAddr (nat_lit 9) g103) p104 
(dLook (nat_lit 4) [] [] (lkMkFunc (.method "retcon/order.number") [g101] []) p105 
(dTurn (nat_lit 5) [] [] false (xNil g105) p106 
(dLook (nat_lit 6) [] [] (lkMove g101) p107 
(dTurn (nat_lit 7) [] [] true (xInvoke g107 "retcon/order.number" [g104, q10, q18, q10]) p108 (dEnd [(nat_lit 101), (nat_lit 102), (nat_lit 103), (nat_lit 104), (nat_lit 105), (nat_lit 106), (nat_lit 107), (nat_lit 108)])))))))))) kSkip))))))))))))))))))))))))))))⟩
def q109 : List Value := [(.bool false), (.int .i64 (.ofNat (nat_lit 0))), (.string ⟨⟨[]⟩⟩)]
noncomputable def k28 : KFun := ⟨[rTmp (nat_lit 4) g4], (kSeq (oSet (xTurn (tnBox g0)) p2 
(oSet (xTurn (tnBox g1)) p3 
(oSet (xMove q0) p4 
oEnd))) (kSeq (kSeq (oSet (xLook (lkFieldAddr (nat_lit 8) g2)) p8 
(oSet (xLook (lkLoad1 g8)) p9 
(oSet (xLook (lkLen .sl g9)) p10 
(oSet (xMove q10) p11 
oEnd)))) (kBlock (nat_lit 0) (kLoop (kSeq (oSet (xLook (lkBin .lss g11 g10)) p12 
oEnd) (kSeq (kCond g12 kSkip (kExit (nat_lit 0))) (kSeq (kBlock (nat_lit 1) (kSeq (oSet (xLook (lkIxSl (nat_lit 3) g9 g11)) p13 
(oSet (xLook (lkLoadN (nat_lit 3) g13)) p14 
(oSet (xTurn (tnAlloc q109)) p6 
(oDo (xTurn (tnStore (nat_lit 3) g6 g14)) 
oEnd)))) (kSeq (oSet (xLook (lkFieldAddr (nat_lit 1) g6)) p15 
(oSet (xLook (lkLoad1 g15)) p16 
(oSet (xLook (lkEq true .int g16 q10)) p17 
(oSet (xMove g17) p18 
(oSetIf (wantF g18) (xLook (lkFieldAddr (nat_lit 2) g6)) p19 
(oSetIf (wantF g18) (xLook (lkLoad1 g19)) p20 
(oSetIf (wantF g18) (xLook (lkEq true .str g20 q33)) p21 
(oSet (xLook (lkPick g18 q30 g21)) p22 
oEnd)))))))) (kCond g22 (kSeq (oSet (xMove q0) p4 
oEnd) kRet) kSkip)))) (oSet (xLook (lkBin .add g11 q16)) p23 
(oSet (xMove g23) p11 
oEnd)))))))) (kSeq (oSet (xLook (lkMkFunc (.func (nat_lit 50)) [] [g3])) p24 
(oSet (xMove g24) p7 
oEnd)) (kSeq (oSet (xLook (lkFieldAddr (nat_lit 1) g2)) p25 
(oSet (xLook (lkLoad1 g25)) p26 
(oSet (xLook (lkEq false .str g26 q33)) p27 
(oSet (xMove g27) p28 
(oSetIf (wantT g28) (xLook (lkFieldAddr (nat_lit 2) g2)) p29 
(oSetIf (wantT g28) (xLook (lkLoad1 g29)) p30 
(oSetIf (wantT g28) (xLook (lkEq false .str g30 q33)) p31 
(oSet (xLook (lkPick g28 g31 q0)) p32 
(oSet (xMove g32) p33 
(oSetIf (wantT g33) (xLook (lkFieldAddr (nat_lit 3) g2)) p34 
(oSetIf (wantT g33) (xLook (lkLoad1 g34)) p35 
(oSetIf (wantT g33) (xLook (lkEq false .str g35 q33)) p36 
(oSet (xLook (lkPick g33 g36 q0)) p37 
(oSet (xMove g37) p38 
(oSetIf (wantT g38) (xLook (lkFieldAddr (nat_lit 4) g2)) p39 
(oSetIf (wantT g38) (xLook (lkLoad1 g39)) p40 
(oSetIf (wantT g38) (xLook (lkEq false .str g40 q33)) p41 
(oSet (xLook (lkPick g38 g41 q0)) p42 
(oSet (xMove g42) p43 
(oSetIf (wantT g43) (xLook (lkFieldAddr (nat_lit 5) g2)) p44 
(oSetIf (wantT g43) (xLook (lkLoad1 g44)) p45 
(oSetIf (wantT g43) (xLook (lkEq false .int g45 q10)) p46 
(oSet (xLook (lkPick g43 g46 q0)) p47 
(oSet (xMove g47) p48 
(oSetIf (wantT g48) (xLook (lkFieldAddr (nat_lit 6) g2)) p49 
(oSetIf (wantT g48) (xLook (lkLoad1 g49)) p50 
(oSetIf (wantT g48) (xLook (lkEq false .int g50 q10)) p51 
(oSet (xLook (lkPick g48 g51 q0)) p52 
(oSet (xMove g52) p53 
(oSetIf (wantT g53) (xLook (lkFieldAddr (nat_lit 9) g2)) p54 
(oSetIf (wantT g53) (xLook (lkLoad1 g54)) p55 
(oSetIf (wantT g53) (xLook (lkEq false .int g55 q10)) p56 
(oSet (xLook (lkPick g53 g56 q0)) p57 
(oSet (xMove g57) p58 
(oSetIf (wantT g58) (xLook (lkFieldAddr (nat_lit 7) g2)) p59 
(oSetIf (wantT g58) (xLook (lkLoad1 g59)) p60 
(oSetIf (wantT g58) (xLook (lkLen .sl g60)) p61 
(oSetIf (wantT g58) (xLook (lkEq false .int g61 q10)) p62 
(oSetIf (wantT g58) (xMove g62) p63 
(oSetIf (wantF g63) (xMove g7) p64 
(oSetIf (wantF g63) (xCall g64 [q104]) p65 
(oSetIf (wantT g58) (xLook (lkPick g63 q30 g65)) p66 
(oSet (xLook (lkPick g58 g66 q0)) p67 
(oSet (xMove g67) p68 
(oSetIf (wantT g68) (xLook (lkFieldAddr (nat_lit 8) g2)) p69 
(oSetIf (wantT g68) (xLook (lkLoad1 g69)) p70 
(oSetIf (wantT g68) (xLook (lkLen .sl g70)) p71 
(oSetIf (wantT g68) (xLook (lkEq false .int g71 q10)) p72 
(oSetIf (wantT g68) (xMove g72) p73 
(oSetIf (wantF g73) (xMove g7) p74 
(oSetIf (wantF g73) (xCall g74 [q106]) p75 
(oSetIf (wantT g68) (xLook (lkPick g73 q30 g75)) p76 
(oSet (xLook (lkPick g68 g76 q0)) p77 
(oSet (xMove g77) p4 
oEnd)))))))))))))))))))))))))))))))))))))))))))))))))))))) kRet))))⟩
def q110 : List Value := [(.bool false), (.slice none (nat_lit 0) (nat_lit 0)), (.int .i64 (.ofNat (nat_lit 0))), (.int .i64 (.ofNat (nat_lit 0))), (.int .i64 (.ofNat (nat_lit 0)))]
noncomputable def k29 : KFun := ⟨[rTmp (nat_lit 2) g2], (kSeq (oSet (xMove q2) p2 
oEnd) (kSeq (oSet (xTurn (tnBuildSlice [] [] (nat_lit 0))) p3 
(oSet (xMove g0) p4 
(oSet (xTurn (tnAppend (nat_lit 1) g3 g4)) p5 
(oSet (xLook (lkBuild q85 [((nat_lit 0), (nat_lit 1), q30), ((nat_lit 1), (nat_lit 1), g5)])) p6 
(oSet (xLook (lkBuild q110 [((nat_lit 0), (nat_lit 4), g6)])) p7 
(oSet (xTurn (tnBox g7)) p8 
(oSet (xMove g8) p2 
oEnd))))))) kRet))⟩
def q111 : OpdF := kC (.func (.func (nat_lit 51)) ⟨[]⟩ ⟨[]⟩)
noncomputable def k30 : KFun := ⟨[rTmp (nat_lit 6) g6], (kSeq (oSet (xTurn (tnBox g0)) p3 
(oSet (xTurn (tnBox g1)) p4 
(oSet (xTurn (tnBox g2)) p5 
(oSet (xMove q10) p6 
oEnd)))) (kSeq (oSet (xTurn (tnAlloc q9)) p7 
(oDo (xTurn (tnStore (nat_lit 1) g7 q10)) 
oEnd)) (kSeq (kSeq (oSet (xLook (lkLoad1 g3)) p8 
(oSet (xLook (lkMkFunc (.func (nat_lit 52)) [] [g3, g4, g5, g7])) p9 
(oSet (xCall q111 [g8, g9]) p10 
(oSet (xLook (lkUn .not g10)) p11 
oEnd)))) (kCond g11 (kSeq (oSet (xMove q10) p6 
oEnd) kRet) kSkip)) (kSeq (oSet (xLook (lkLoad1 g7)) p12 
(oSet (xMove g12) p6 
oEnd)) kRet))))⟩
noncomputable def k31 : KFun := ⟨[rTmp (nat_lit 4) g4], (kSeq (oSet (xTurn (tnBox g0)) p2 
(oSet (xTurn (tnBox g1)) p3 
(oSet (xMove q10) p4 
oEnd))) (kSeq (oSet (xTurn (tnAlloc q9)) p5 
(oDo (xTurn (tnStore (nat_lit 1) g5 q10)) 
oEnd)) (kSeq (kSeq (oSet (xLook (lkLoad1 g2)) p6 
(oSet (xLook (lkMkFunc (.func (nat_lit 54)) [] [g2, g3, g5])) p7 
(oSet (xCall q111 [g6, g7]) p8 
(oSet (xLook (lkUn .not g8)) p9 
oEnd)))) (kCond g9 (kSeq (oSet (xMove q10) p4 
oEnd) kRet) kSkip)) (kSeq (oSet (xLook (lkLoad1 g5)) p10 
(oSet (xMove g10) p4 
oEnd)) kRet))))⟩
noncomputable def k32 : KFun := ⟨[rTmp (nat_lit 4) g4], (kSeq (oSet (xTurn (tnBox g0)) p2 
(oSet (xTurn (tnBox g1)) p3 
(oSet (xMove q33) p4 
oEnd))) (kSeq (oSet (xTurn (tnAlloc q5)) p5 
(oDo (xTurn (tnStore (nat_lit 1) g5 q33)) 
oEnd)) (kSeq (kSeq (oSet (xLook (lkLoad1 g2)) p6 
(oSet (xLook (lkMkFunc (.func (nat_lit 55)) [] [g2, g3, g5])) p7 
(oSet (xCall q111 [g6, g7]) p8 
(oSet (xLook (lkUn .not g8)) p9 
oEnd)))) (kCond g9 (kSeq (oSet (xMove q33) p4 
oEnd) kRet) kSkip)) (kSeq (oSet (xLook (lkLoad1 g5)) p10 
(oSet (xMove g10) p4 
oEnd)) kRet))))⟩
def q112 : OpdF := kC (.func (.func (nat_lit 57)) ⟨[]⟩ ⟨[]⟩)
def q113 : OpdF := kC (.func (.func (nat_lit 58)) ⟨[]⟩ ⟨[]⟩)
noncomputable def k33 : KFun := ⟨[rCellN (nat_lit 2) g2 (nat_lit 2)], (kSeq (oSet (xTurn (tnAlloc q40)) p2 
oEnd) (kSeq (oSet (xMove g0) p4 
(oSet (xCall q112 [g4]) p5 
(oSet (xTurn (tnAlloc q40)) p3 
(oDo (xTurn (tnStore (nat_lit 2) g3 g5)) 
oEnd)))) (kSeq (kSeq (oSet (xLook (lkFieldAddr (nat_lit 0) g3)) p6 
(oSet (xLook (lkLoad1 g6)) p7 
(oSet (xLook (lkEq false .int g7 q10)) p8 
(oSet (xMove g8) p9 
(oSetIf (wantT g9) (xMove g0) p10 
(oSetIf (wantT g9) (xCall q113 [g10]) p11 
(oSetIf (wantT g9) (xLook (lkBin .gtr g11 q10)) p12 
(oSet (xLook (lkPick g9 g12 q0)) p13 
oEnd)))))))) (kCond g13 (oSet (xMove g0) p14 
(oSet (xNil g14) p15 
(oSet (xLook (lkFieldAddr (nat_lit 4) g15)) p16 
(oSet (xLook (lkLoad1 g16)) p17 
(oSet (xLook (lkBuild q40 [((nat_lit 0), (nat_lit 1), q17), ((nat_lit 1), (nat_lit 1), g17)])) p18 
(oDo (xTurn (tnStore (nat_lit 2) g3 g18)) 
oEnd)))))) kSkip)) (kSeq (oSet (xLook (lkLoadN (nat_lit 2) g3)) p19 
(oDo (xTurn (tnStore (nat_lit 2) g2 g19)) 
oEnd)) kRet))))⟩
def q114 : List Value := [(.pointer none), (.int .i64 (.ofNat (nat_lit 0))), (.int .i64 (.ofNat (nat_lit 0)))]
def q115 : OpdF := kC (.func (.func (nat_lit 59)) ⟨[]⟩ ⟨[]⟩)
noncomputable def k34 : KFun := ⟨[rCellN (nat_lit 2) g2 (nat_lit 10), rCellN (nat_lit 3) g3 (nat_lit 2)], (kSeq (oSet (xTurn (tnAlloc q6)) p2 
(oSet (xTurn (tnAlloc q40)) p3 
oEnd)) (kSeq (oSet (xMove g0) p8 
(oSet (xCall q59 [g8]) p9 
(oSet (xLook (lkBuild q114 [((nat_lit 0), (nat_lit 1), g9)])) p10 
(oSet (xTurn (tnBox g10)) p11 
(oSet (xMove g11) p4 
oEnd))))) (kSeq (oSet (xTurn (tnAlloc q6)) p5 
oEnd) (kSeq (oSet (xMove g4) p12 
(oSet (xLook (lkMkIface (nat_lit 122) g12)) p13 
(oSet (xCall q56 [g13, g5]) p14 
oEnd))) (kSeq (kSeq (oSet (xMove g4) p15 
(oSet (xCall q115 [g15]) p16 
(oSet (xTurn (tnAlloc q40)) p6 
(oDo (xTurn (tnStore (nat_lit 2) g6 g16)) 
oEnd)))) (kSeq (oSet (xLook (lkFieldAddr (nat_lit 0) g6)) p17 
(oSet (xLook (lkLoad1 g17)) p18 
(oSet (xLook (lkEq true .int g18 q10)) p19 
oEnd))) (kCond g19 (kSeq (kDraw 
(dLook (nat_lit 0) [] [] (lkBuild q6 []) p20 
(dLook (nat_lit 1) [] [] (lkLoadN (nat_lit 2) g6) p21 
(dTurn (nat_lit 2) [(nat_lit 1)] [] true (xTurn (tnStore (nat_lit 10) g2 g20)) noDst 
(dTurn (nat_lit 3) [] [(nat_lit 2)] true (xTurn (tnStore (nat_lit 2) g3 g21)) noDst (dEnd [(nat_lit 20), (nat_lit 21)])))))) kRet) kSkip))) (kSeq (oSet (xMove g4) p22 
(oSet (xLook (lkMkIface (nat_lit 122) g22)) p23 
(oSet (xLook (lkFieldAddr (nat_lit 0) g5)) p24 
(oSet (xLook (lkLoad1 g24)) p25 
(oSet (xCall q57 [g23, g25, g5]) p26 
oEnd))))) (kSeq (oSet (xMove g4) p27 
(oSet (xCall q115 [g27]) p28 
(oSet (xTurn (tnAlloc q40)) p7 
(oDo (xTurn (tnStore (nat_lit 2) g7 g28)) 
oEnd)))) (kSeq (kSeq (oSet (xLook (lkFieldAddr (nat_lit 0) g7)) p29 
(oSet (xLook (lkLoad1 g29)) p30 
(oSet (xLook (lkEq false .int g30 q10)) p31 
oEnd))) (kCond g31 (oSet (xMove g4) p32 
(oSet (xNil g32) p33 
(oSet (xLook (lkFieldAddr (nat_lit 0) g33)) p34 
(oSet (xLook (lkLoad1 g34)) p35 
(oSet (xCall q70 [g35]) p36 
(oDo (xTurn (tnStore (nat_lit 2) g7 g36)) 
oEnd)))))) kSkip)) (kSeq (kSeq (oSet (xLook (lkFieldAddr (nat_lit 0) g7)) p37 
(oSet (xLook (lkLoad1 g37)) p38 
(oSet (xLook (lkEq true .int g38 q10)) p39 
oEnd))) (kCond g39 (kSeq (kDraw 
(dLook (nat_lit 0) [] [] (lkBuild q6 []) p40 
(dLook (nat_lit 1) [] [] (lkLoadN (nat_lit 2) g7) p41 
(dTurn (nat_lit 2) [(nat_lit 1)] [] true (xTurn (tnStore (nat_lit 10) g2 g40)) noDst 
(dTurn (nat_lit 3) [] [(nat_lit 2)] true (xTurn (tnStore (nat_lit 2) g3 g41)) noDst (dEnd [(nat_lit 40), (nat_lit 41)])))))) kRet) kSkip)) (kSeq (oSet (xLook (lkLoadN (nat_lit 10) g5)) p42 
(oSet (xLook (lkBuild q40 [])) p43 
(oDo (xTurn (tnStore (nat_lit 10) g2 g42)) 
(oDo (xTurn (tnStore (nat_lit 2) g3 g43)) 
oEnd)))) kRet))))))))))⟩
def q116 : OpdF := kC (.func (.func (nat_lit 61)) ⟨[]⟩ ⟨[]⟩)
def q117 : OpdF := kC (.func (.func (nat_lit 63)) ⟨[]⟩ ⟨[]⟩)
def q118 : OpdF := kC (.func (.func (nat_lit 62)) ⟨[]⟩ ⟨[]⟩)
noncomputable def k35 : KFun := ⟨[rCellN (nat_lit 4) g4 (nat_lit 5)], (kSeq (oSet (xTurn (tnBox g0)) p2 
(oSet (xTurn (tnBox g1)) p3 
(oSet (xTurn (tnAlloc q15)) p4 
oEnd))) (kSeq (oSet (xLook (lkLoad1 g2)) p6 
(oSet (xNil g6) p7 
(oSet (xLook (lkFieldAddr (nat_lit 0) g7)) p8 
(oSet (xLook (lkLoad1 g8)) p9 
(oSet (xTurn (tnAlloc q77)) p5 
(oDo (xTurn (tnStore (nat_lit 1) g5 g9)) 
oEnd)))))) (kSeq (oSet (xLook (lkMkFunc (.func (nat_lit 60)) [] [g5, g4, g2])) p10 
(oDo (xDefer g10 []) 
oEnd)) (kSeq (kDraw 
(dLook (nat_lit 0) [] [] (lkLoad1 g2) p11 
(dTurn (nat_lit 1) [] [] true (xCall q116 [g11]) p12 
(dLook (nat_lit 2) [] [] (lkFieldAddr (nat_lit 0) g3) p13 
(dLook (nat_lit 3) [(nat_lit 1)] [] (lkLoad1 g13) p14 
(dLook (nat_lit 4) [] [(nat_lit 1)] (lkLookup (.one (.int .i64)) .nilFunc false g12 g14) p15 
(dLook (nat_lit 5) [(nat_lit 1)] [] (lkLoadN (nat_lit 10) g3) p16 
(dTurn (nat_lit 6) [] [(nat_lit 1)] true (xCall g15 [g16]) p17 
(dTurn (nat_lit 7) [] [(nat_lit 1), (nat_lit 6)] true (xTurn (tnStore (nat_lit 5) g4 g17)) noDst (dEnd [(nat_lit 11), (nat_lit 12), (nat_lit 13), (nat_lit 14), (nat_lit 15), (nat_lit 16), (nat_lit 17)])))))))))) (kSeq (oSet (xLook (lkLoadN (nat_lit 5) g4)) p18 
(oSet (xCall q117 [g18]) p19 
(oSet (xLook (lkEq true .int g19 q10)) p20 
(oSet (xCall q118 [g20, q7]) p21 
oEnd)))) (kSeq (oSet (xLook (lkLoadN (nat_lit 5) g4)) p22 
(oDo (xTurn (tnStore (nat_lit 5) g4 g22)) 
oEnd)) kRet))))))⟩
noncomputable def k36 : KFun := ⟨[rTmp (nat_lit 2) g2, rTmp (nat_lit 3) g3], (kSeq (oSet (xTurn (tnBox g0)) p1 
(oSet (xMove q12) p2 
(oSet (xMove q10) p3 
oEnd))) (kSeq (kSeq (oSet (xLook (lkLoadN (nat_lit 5) g1)) p14 
(oSet (xCall q117 [g14]) p15 
(oSet (xMove g15) p4 
oEnd))) (kSeq (oSet (xMove g4) p16 
(oSet (xLook (lkEq true .int g16 q10)) p17 
oEnd)) (kCond g17 (kSeq (oSet (xMove g4) p18 
(oSet (xMove q12) p2 
(oSet (xMove g18) p3 
oEnd))) kRet) kSkip))) (kSeq (oSet (xCall q48 []) p19 
(oSet (xMove g19) p5 
oEnd)) (kSeq (oSet (xMove g5) p20 
(oSet (xLook (lkFieldAddr (nat_lit 0) g1)) p21 
(oSet (xLook (lkLoad1 g21)) p22 
(oSet (xCall q49 [g20, g22]) p23 
oEnd)))) (kSeq (kSeq (oSet (xLook (lkFieldAddr (nat_lit 0) g1)) p24 
(oSet (xLook (lkLoad1 g24)) p25 
(oSet (xLook (lkEq true .int g25 q10)) p26 
oEnd))) (kCond g26 (kSeq (oSet (xMove g5) p27 
(oSet (xCall q50 [g27]) p28 
(oSet (xLook (lkExtract (nat_lit 0) g28)) p29 
(oSet (xLook (lkExtract (nat_lit 1) g28)) p30 
(oSet (xMove g29) p2 
(oSet (xMove g30) p3 
oEnd)))))) kRet) kSkip)) (kSeq (oSet (xMove g5) p31 
(oSet (xLook (lkFieldAddr (nat_lit 1) g1)) p32 
(oSet (xLook (lkLoad1 g32)) p33 
(oSet (xLook (lkLen .sl g33)) p34 
(oSet (xCall q49 [g31, g34]) p35 
oEnd))))) (kSeq (kSeq (oSet (xLook (lkFieldAddr (nat_lit 1) g1)) p36 
(oSet (xLook (lkLoad1 g36)) p37 
(oSet (xLook (lkLen .sl g37)) p38 
(oSet (xMove q10) p39 
oEnd)))) (kBlock (nat_lit 0) (kLoop (kSeq (oSet (xLook (lkBin .lss g39 g38)) p40 
oEnd) (kSeq (kCond g40 kSkip (kExit (nat_lit 0))) (kSeq (kBlock (nat_lit 1) (kSeq (oSet (xLook (lkIxSl (nat_lit 1) g37 g39)) p41 
(oSet (xLook (lkLoad1 g41)) p42 
(oSet (xMove g42) p7 
oEnd))) (oSet (xMove g5) p43 
(oSet (xMove g7) p44 
(oSet (xCall q49 [g43, g44]) p45 
oEnd))))) (oSet (xLook (lkBin .add g39 q16)) p46 
(oSet (xMove g46) p39 
oEnd)))))))) (kSeq (oSet (xMove g5) p47 
(oSet (xLook (lkFieldAddr (nat_lit 2) g1)) p48 
(oSet (xLook (lkLoad1 g48)) p49 
(oSet (xLook (lkLen .sl g49)) p50 
(oSet (xCall q49 [g47, g50]) p51 
oEnd))))) (kSeq (kSeq (oSet (xLook (lkFieldAddr (nat_lit 2) g1)) p52 
(oSet (xLook (lkLoad1 g52)) p53 
(oSet (xLook (lkLen .sl g53)) p54 
(oSet (xMove q10) p55 
oEnd)))) (kBlock (nat_lit 2) (kLoop (kSeq (oSet (xLook (lkBin .lss g55 g54)) p56 
oEnd) (kSeq (kCond g56 kSkip (kExit (nat_lit 2))) (kSeq (kBlock (nat_lit 3) (kSeq (oSet (xLook (lkIxSl (nat_lit 1) g53 g55)) p57 
(oSet (xLook (lkLoad1 g57)) p58 
(oSet (xMove g58) p9 
oEnd))) (oSet (xMove g5) p59 
(oSet (xMove g9) p60 
(oSet (xCall q93 [g59, g60]) p61 
oEnd))))) (oSet (xLook (lkBin .add g55 q16)) p62 
(oSet (xMove g62) p55 
oEnd)))))))) (kSeq (oSet (xMove g5) p63 
(oSet (xLook (lkFieldAddr (nat_lit 3) g1)) p64 
(oSet (xLook (lkLoad1 g64)) p65 
(oSet (xLook (lkLen .sl g65)) p66 
(oSet (xCall q49 [g63, g66]) p67 
oEnd))))) (kSeq (kSeq (oSet (xLook (lkFieldAddr (nat_lit 3) g1)) p68 
(oSet (xLook (lkLoad1 g68)) p69 
(oSet (xLook (lkLen .sl g69)) p70 
(oSet (xMove q10) p71 
oEnd)))) (kBlock (nat_lit 4) (kLoop (kSeq (oSet (xLook (lkBin .lss g71 g70)) p72 
oEnd) (kSeq (kCond g72 kSkip (kExit (nat_lit 4))) (kSeq (kBlock (nat_lit 5) (kSeq (oSet (xLook (lkIxSl (nat_lit 2) g69 g71)) p73 
(oSet (xLook (lkLoadN (nat_lit 2) g73)) p74 
(oSet (xTurn (tnAlloc q67)) p11 
(oDo (xTurn (tnStore (nat_lit 2) g11 g74)) 
oEnd)))) (kSeq (oSet (xMove g5) p75 
(oSet (xLook (lkFieldAddr (nat_lit 0) g11)) p76 
(oSet (xLook (lkLoad1 g76)) p77 
(oSet (xCall q93 [g75, g77]) p78 
oEnd)))) (oSet (xMove g5) p79 
(oSet (xLook (lkFieldAddr (nat_lit 1) g11)) p80 
(oSet (xLook (lkLoad1 g80)) p81 
(oSet (xCall q93 [g79, g81]) p82 
oEnd))))))) (oSet (xLook (lkBin .add g71 q16)) p83 
(oSet (xMove g83) p71 
oEnd)))))))) (kSeq (oSet (xMove g5) p84 
(oSet (xLook (lkFieldAddr (nat_lit 4) g1)) p85 
(oSet (xLook (lkLoad1 g85)) p86 
(oSet (xLook (lkLen .sl g86)) p87 
(oSet (xCall q49 [g84, g87]) p88 
oEnd))))) (kSeq (kSeq (oSet (xLook (lkFieldAddr (nat_lit 4) g1)) p89 
(oSet (xLook (lkLoad1 g89)) p90 
(oSet (xLook (lkLen .sl g90)) p91 
(oSet (xMove q10) p92 
oEnd)))) (kBlock (nat_lit 6) (kLoop (kSeq (oSet (xLook (lkBin .lss g92 g91)) p93 
oEnd) (kSeq (kCond g93 kSkip (kExit (nat_lit 6))) (kSeq (kBlock (nat_lit 7) (kSeq (oSet (xLook (lkIxSl (nat_lit 3) g90 g92)) p94 
(oSet (xLook (lkLoadN (nat_lit 3) g94)) p95 
(oSet (xTurn (tnAlloc q69)) p13 
(oDo (xTurn (tnStore (nat_lit 3) g13 g95)) 
oEnd)))) (kSeq (oSet (xMove g5) p96 
(oSet (xLook (lkFieldAddr (nat_lit 0) g13)) p97 
(oSet (xLook (lkLoad1 g97)) p98 
(oSet (xCall q93 [g96, g98]) p99 
oEnd)))) (kSeq (kSeq (oSet (xLook (lkFieldAddr (nat_lit 2) g13)) p100 
(oSet (xLook (lkLoad1 g100)) p101 
oEnd)) (kCond g101 (kSeq (oSet (xMove g5) p102 
(oSet (xCall q49 [g102, q16]) p103 
oEnd)) (kExit (nat_lit 7))) kSkip)) (kSeq (oSet (xMove g5) p104 
(oSet (xCall q49 [g104, q10]) p105 
oEnd)) (oSet (xMove g5) p106 
(oSet (xLook (lkFieldAddr (nat_lit 1) g13)) p107 
(oSet (xLook (lkLoad1 g107)) p108 
(oSet (xCall q93 [g106, g108]) p109 
oEnd))))))))) (oSet (xLook (lkBin .add g92 q16)) p110 
(oSet (xMove g110) p92 
oEnd)))))))) (kSeq (oSet (xMove g5) p111 
(oSet (xCall q50 [g111]) p112 
(oSet (xLook (lkExtract (nat_lit 0) g112)) p113 
(oSet (xLook (lkExtract (nat_lit 1) g112)) p114 
(oSet (xMove g113) p2 
(oSet (xMove g114) p3 
oEnd)))))) kRet))))))))))))))⟩
def q119 : OpdF := kC (.func (.func (nat_lit 64)) ⟨[]⟩ ⟨[]⟩)
def q120 : OpdF := kC (.string ⟨⟨[97, 98, 99, 100, 101, 102, 103, 104, 105, 106, 107, 108, 109, 110, 111, 112, 113, 114, 115, 116, 117, 118, 119, 120, 121, 122, 48, 49, 50, 51, 52, 53, 54, 55, 56, 57, 46, 45, 95]⟩⟩)
noncomputable def k37 : KFun := ⟨[rTmp (nat_lit 2) g2], (kSeq (oSet (xMove q0) p2 
oEnd) (kSeq (oSet (xMove g0) p3 
(oSet (xLook (lkEq true .str g3 q33)) p4 
(oSet (xMove g4) p5 
(oSetIf (wantT g5) (xMove g0) p6 
(oSetIf (wantT g5) (xLook (lkLen .str g6)) p7 
(oSetIf (wantT g5) (xLook (lkBin .leq g7 q97)) p8 
(oSet (xLook (lkPick g5 g8 q0)) p9 
(oSet (xMove g9) p10 
(oSetIf (wantT g10) (xMove g0) p11 
(oSetIf (wantT g10) (xCall q119 [g11, q120]) p12 
(oSetIf (wantT g10) (xLook (lkEq false .str g12 q33)) p13 
(oSet (xLook (lkPick g10 g13 q0)) p14 
(oSet (xMove g14) p2 
oEnd))))))))))))) kRet))⟩
noncomputable def k38 : KFun := ⟨[rTmp (nat_lit 2) g2], (kSeq (oSet (xMove q12) p2 
oEnd) (kSeq (kSeq (oSet (xMove g0) p3 
(oSet (xLook (lkEq false .slice g3 q12)) p4 
oEnd)) (kCond g4 (kSeq (oSet (xMove q12) p2 
oEnd) kRet) kSkip)) (kSeq (oSet (xTurn (tnBuildSlice [] [] (nat_lit 0))) p5 
(oSet (xMove g0) p6 
(oSet (xTurn (tnAppend (nat_lit 6) g5 g6)) p7 
(oSet (xMove g7) p2 
oEnd)))) kRet)))⟩
def q121 : OpdF := kC (.int .i64 (.ofNat (nat_lit 15)))
def q122 : OpdF := kC (.func (.func (nat_lit 65)) ⟨[]⟩ ⟨[]⟩)
noncomputable def k39 : KFun := ⟨[rTmp (nat_lit 2) g2], (kSeq (oSet (xTurn (tnBox g0)) p1 
(oSet (xMove q10) p2 
oEnd)) (kSeq (kSeq (oSet (xLook (lkFieldAddr (nat_lit 0) g1)) p9 
(oSet (xLook (lkLoad1 g9)) p10 
(oSet (xLook (lkBin .lss g10 q16)) p11 
(oSet (xMove g11) p12 
(oSetIf (wantF g12) (xLook (lkFieldAddr (nat_lit 0) g1)) p13 
(oSetIf (wantF g12) (xLook (lkLoad1 g13)) p14 
(oSetIf (wantF g12) (xLook (lkBin .gtr g14 q121)) p15 
(oSet (xLook (lkPick g12 q30 g15)) p16 
oEnd)))))))) (kCond g16 (kSeq (oSet (xMove q18) p2 
oEnd) kRet) kSkip)) (kSeq (oSet (xLook (lkLoadN (nat_lit 6) g1)) p17 
(oSet (xTurn (tnAlloc q34)) p3 
(oDo (xTurn (tnStore (nat_lit 6) g3 g17)) 
oEnd))) (kSeq (oSet (xLook (lkFieldAddr (nat_lit 0) g3)) p18 
(oDo (xTurn (tnStore (nat_lit 1) g18 q10)) 
oEnd)) (kSeq (kSeq (oSet (xLook (lkFieldAddr (nat_lit 0) g1)) p19 
(oSet (xLook (lkLoad1 g19)) p20 
(oSet (xCall q91 [g20]) p21 
(oSet (xTurn (tnRangeStr g21)) p22 
oEnd)))) (kBlock (nat_lit 0) (kLoop (kSeq (oSet (xTurn (tnNextStr g22)) p23 
(oSet (xLook (lkExtract (nat_lit 0) g23)) p24 
oEnd)) (kSeq (kCond g24 kSkip (kExit (nat_lit 0))) (kBlock (nat_lit 1) (kSeq (oSet (xLook (lkExtract (nat_lit 2) g23)) p25 
(oSet (xMove g25) p5 
oEnd)) (kSeq (kSeq (oSet (xMove g5) p26 
(oSet (xLook (lkEq false .int g26 q92)) p27 
oEnd)) (kCond g27 (kSeq (kSeq (oSet (xLook (lkFieldAddr (nat_lit 5) g1)) p28 
(oSet (xLook (lkLoad1 g28)) p29 
(oSet (xLook (lkLen .str g29)) p30 
(oSet (xLook (lkBin .gtr g30 q68)) p31 
oEnd)))) (kCond g31 (kSeq (oSet (xMove q18) p2 
oEnd) kRet) kSkip)) (kSeq (oSet (xLook (lkFieldAddr (nat_lit 5) g3)) p32 
(oDo (xTurn (tnStore (nat_lit 1) g32 q33)) 
oEnd)) (kExit (nat_lit 1)))) kSkip)) (kSeq (oSet (xMove q10) p6 
(oSet (xMove q22) p7 
oEnd)) (kSeq (kSeq (oSet (xMove g5) p33 
(oSet (xLook (lkEq false .int g33 q96)) p34 
oEnd)) (kCond g34 (oSet (xLook (lkFieldAddr (nat_lit 0) g1)) p35 
(oSet (xLook (lkLoad1 g35)) p36 
(oSet (xCall q122 [g36]) p37 
(oSet (xMove q16) p6 
(oSet (xMove g37) p7 
oEnd))))) kSkip)) (kSeq (oSet (xMove g5) p38 
(oSet (xCall q94 [g3, g38]) p39 
(oSet (xMove g39) p8 
oEnd))) (kSeq (kSeq (oSet (xMove g8) p40 
(oSet (xNil g40) p41 
(oSet (xLook (lkLoad1 g41)) p42 
(oSet (xMove g6) p43 
(oSet (xLook (lkBin .lss g42 g43)) p44 
(oSet (xMove g44) p45 
(oSetIf (wantF g45) (xMove g8) p46 
(oSetIf (wantF g45) (xNil g46) p47 
(oSetIf (wantF g45) (xLook (lkLoad1 g47)) p48 
(oSetIf (wantF g45) (xMove g7) p49 
(oSetIf (wantF g45) (xLook (lkBin .gtr g48 g49)) p50 
(oSet (xLook (lkPick g45 q30 g50)) p51 
oEnd)))))))))))) (kCond g51 (kSeq (oSet (xMove q18) p2 
oEnd) kRet) kSkip)) (oSet (xMove g8) p52 
(oSet (xNil g52) p53 
(oDo (xTurn (tnStore (nat_lit 1) g53 q10)) 
oEnd))))))))))))))) (kSeq (kSeq (oSet (xLook (lkLoadN (nat_lit 6) g3)) p54 
(oSet (xLook (lkBuild q34 [])) p55 
(oSet (xLook (lkEq true (.flat [(.int .i64), (.int .i64), (.int .i64), (.int .i64), (.int .i64), .str]) g54 g55)) p56 
oEnd))) (kCond g56 (kSeq (oSet (xMove q18) p2 
oEnd) kRet) kSkip)) (kSeq (oSet (xMove q10) p2 
oEnd) kRet)))))))⟩
def q123 : OpdF := kC (.func (.func (nat_lit 66)) ⟨[]⟩ ⟨[]⟩)
noncomputable def k40 : KFun := ⟨[rTmp (nat_lit 2) g2], (kSeq (oSet (xMove q10) p2 
oEnd) (kSeq (kSeq (oSet (xMove g0) p4 
(oSet (xLook (lkLen .sl g4)) p5 
(oSet (xMove q10) p6 
oEnd))) (kBlock (nat_lit 0) (kLoop (kSeq (oSet (xLook (lkBin .lss g6 g5)) p7 
oEnd) (kSeq (kCond g7 kSkip (kExit (nat_lit 0))) (kSeq (kBlock (nat_lit 1) (kSeq (oSet (xMove g6) p8 
(oSet (xMove g8) p3 
oEnd)) (kSeq (oSet (xMove g0) p9 
(oSet (xMove g3) p10 
(oSet (xCall q123 [g9, g10]) p11 
oEnd))) (kCond g11 (kSeq (oSet (xMove g3) p12 
(oSet (xMove g12) p2 
oEnd)) kRet) kSkip)))) (oSet (xLook (lkBin .add g6 q16)) p13 
(oSet (xMove g13) p6 
oEnd)))))))) (kSeq (oSet (xMove q41) p2 
oEnd) kRet)))⟩
noncomputable def k41 : KFun := ⟨[rTmp (nat_lit 2) g2], (kSeq (oSet (xMove q10) p2 
oEnd) (kSeq (kSeq (oSet (xMove g0) p4 
(oSet (xLook (lkBin .lss g4 q10)) p5 
oEnd)) (kCond g5 (kSeq (oSet (xMove q10) p2 
oEnd) kRet) kSkip)) (kSeq (oSet (xMove q16) p3 
oEnd) (kSeq (kSeq (oSet (xMove g0) p6 
(oSet (xLook (lkBin .shr g6 q90)) p7 
(oSet (xMove g7) p0 
oEnd))) (kBlock (nat_lit 0) (kLoop (kSeq (kSeq (oSet (xMove g0) p8 
(oSet (xLook (lkBin .gtr g8 q10)) p9 
oEnd)) (kCond g9 kSkip (kExit (nat_lit 0)))) (kSeq (kBlock (nat_lit 1) (oSet (xMove g3) p12 
(oSet (xLook (lkBin .add g12 q16)) p13 
(oSet (xMove g13) p3 
oEnd)))) (oSet (xMove g0) p10 
(oSet (xLook (lkBin .shr g10 q90)) p11 
(oSet (xMove g11) p0 
oEnd)))))))) (kSeq (oSet (xMove g3) p14 
(oSet (xMove g14) p2 
oEnd)) kRet)))))⟩
noncomputable def k42 : KFun := ⟨[rTmp (nat_lit 2) g2], (kSeq (oSet (xTurn (tnBox g0)) p1 
(oSet (xMove q10) p2 
oEnd)) (kSeq (oSet (xLook (lkLoadN (nat_lit 6) g1)) p6 
(oSet (xCall q51 [g6]) p7 
(oSet (xMove g7) p5 
(oSet (xLook (lkExtract (nat_lit 0) g5)) p8 
(oSet (xLook (lkExtract (nat_lit 1) g5)) p9 
(oSet (xMove g8) p3 
(oSet (xMove g9) p4 
oEnd))))))) (kSeq (oSet (xMove g3) p10 
(oSet (xLook (lkLen .sl g10)) p11 
(oSet (xMove g11) p2 
oEnd))) kRet)))⟩
def q124 : OpdF := kC (.func (.func (nat_lit 67)) ⟨[]⟩ ⟨[]⟩)
noncomputable def k43 : KFun := ⟨[rTmp (nat_lit 2) g2], (kSeq (oSet (xMove q0) p2 
oEnd) (kSeq (oSet (xMove g0) p3 
(oSet (xLook (lkEq false .ptr g3 q2)) p4 
(oSet (xMove g4) p5 
(oSetIf (wantF g5) (xMove g0) p6 
(oSetIf (wantF g5) (xNil g6) p7 
(oSetIf (wantF g5) (xLook (lkFieldAddr (nat_lit 0) g7)) p8 
(oSetIf (wantF g5) (xCall q124 [g8]) p9 
(oSet (xLook (lkPick g5 q30 g9)) p10 
(oSet (xMove g10) p2 
oEnd))))))))) kRet))⟩
def q125 : List Value := [(.string ⟨⟨[]⟩⟩), (.string ⟨⟨[]⟩⟩), (.string ⟨⟨[]⟩⟩), (.string ⟨⟨[]⟩⟩), (.string ⟨⟨[]⟩⟩), (.string ⟨⟨[]⟩⟩), (.string ⟨⟨[]⟩⟩), (.string ⟨⟨[]⟩⟩), (.string ⟨⟨[]⟩⟩), (.string ⟨⟨[]⟩⟩), (.string ⟨⟨[]⟩⟩), (.string ⟨⟨[]⟩⟩), (.string ⟨⟨[]⟩⟩), (.string ⟨⟨[]⟩⟩), (.string ⟨⟨[]⟩⟩), (.string ⟨⟨[]⟩⟩)]
def q126 : OpdF := kC (.string ⟨⟨[97, 115]⟩⟩)
def q127 : OpdF := kC (.string ⟨⟨[97, 98]⟩⟩)
def q128 : OpdF := kC (.string ⟨⟨[97, 98, 99]⟩⟩)
def q129 : OpdF := kC (.string ⟨⟨[97, 98, 99, 110]⟩⟩)
def q130 : OpdF := kC (.string ⟨⟨[97, 110]⟩⟩)
noncomputable def k44 : KFun := ⟨[rTmp (nat_lit 2) g2], (kSeq (oSet (xMove q33) p2 
oEnd) (kSeq (oSet (xLook (lkBuild q125 [((nat_lit 1), (nat_lit 1), q126), ((nat_lit 2), (nat_lit 1), q127), ((nat_lit 3), (nat_lit 1), q128), ((nat_lit 4), (nat_lit 1), q127), ((nat_lit 5), (nat_lit 1), q4), ((nat_lit 6), (nat_lit 1), q129), ((nat_lit 7), (nat_lit 1), q128), ((nat_lit 8), (nat_lit 1), q128), ((nat_lit 9), (nat_lit 1), q128), ((nat_lit 10), (nat_lit 1), q128), ((nat_lit 11), (nat_lit 1), q128), ((nat_lit 12), (nat_lit 1), q130), ((nat_lit 13), (nat_lit 1), q21), ((nat_lit 14), (nat_lit 1), q4), ((nat_lit 15), (nat_lit 1), q33)])) p4 
(oSet (xTurn (tnAlloc q125)) p3 
(oDo (xTurn (tnStore (nat_lit 16) g3 g4)) 
oEnd))) (kSeq (kSeq (oSet (xMove g0) p5 
(oSet (xLook (lkBin .lss g5 q16)) p6 
(oSet (xMove g6) p7 
(oSetIf (wantF g7) (xMove g0) p8 
(oSetIf (wantF g7) (xLook (lkBin .geq g8 q74)) p9 
(oSet (xLook (lkPick g7 q30 g9)) p10 
oEnd)))))) (kCond g10 (kSeq (oSet (xMove q33) p2 
oEnd) kRet) kSkip)) (kSeq (oSet (xMove g0) p11 
(oSet (xLook (lkIxArr (nat_lit 16) (nat_lit 1) g3 g11)) p12 
(oSet (xLook (lkLoad1 g12)) p13 
(oSet (xMove g13) p2 
oEnd)))) kRet))))⟩
noncomputable def k45 : KFun := ⟨[], (kSeq (kSeq (oSet (xMove g0) p4 
(oSet (xCall q86 [g4]) p5 
oEnd)) (kCond g5 kRet kSkip)) (kSeq (oSet (xMove g0) p6 
(oSet (xMove g1) p7 
(oSet (xLook (lkLen .str g7)) p8 
(oSet (xCall q49 [g6, g8]) p9 
oEnd)))) (oSet (xMove g0) p10 
(oSet (xMove g0) p11 
(oSet (xNil g11) p12 
(oSet (xLook (lkFieldAddr (nat_lit 0) g12)) p13 
(oSet (xLook (lkFieldAddr (nat_lit 1) g13)) p14 
(oSet (xLook (lkLoad1 g14)) p15 
(oSet (xMove g1) p16 
(oSet (xTurn (tnAppend (nat_lit 1) g15 g16)) p17 
(oSet (xNil g10) p18 
(oSet (xLook (lkFieldAddr (nat_lit 0) g18)) p19 
(oSet (xLook (lkFieldAddr (nat_lit 1) g19)) p20 
(oDo (xTurn (tnStore (nat_lit 1) g20 g17)) 
oEnd))))))))))))))⟩
def q131 : OpdF := kC (.int .i32 (.ofNat (nat_lit 98)))
noncomputable def k46 : KFun := ⟨[rTmp (nat_lit 4) g4], (kSeq (oSet (xMove q2) p4 
oEnd) (kSeq (kSeq (oSet (xMove g1) p5 
oEnd) (kBlock (nat_lit 0) (kSeq (oSet (xLook (lkEq false .int g5 q101)) p7 
(oSet (xMove g7) p6 
oEnd)) (kCond g6 (kSeq (oSet (xMove g0) p8 
(oSet (xNil g8) p9 
(oSet (xLook (lkFieldAddr (nat_lit 1) g9)) p10 
(oSet (xMove g10) p4 
oEnd)))) kRet) (kSeq (oSet (xLook (lkEq false .int g5 q131)) p12 
(oSet (xMove g12) p11 
oEnd)) (kCond g11 (kSeq (oSet (xMove g0) p13 
(oSet (xNil g13) p14 
(oSet (xLook (lkFieldAddr (nat_lit 2) g14)) p15 
(oSet (xMove g15) p4 
oEnd)))) kRet) (kSeq (oSet (xLook (lkEq false .int g5 q104)) p17 
(oSet (xMove g17) p16 
oEnd)) (kCond g16 (kSeq (oSet (xMove g0) p18 
(oSet (xNil g18) p19 
(oSet (xLook (lkFieldAddr (nat_lit 3) g19)) p20 
(oSet (xMove g20) p4 
oEnd)))) kRet) kSkip)))))))) (kSeq (oSet (xMove g0) p21 
(oSet (xNil g21) p22 
(oSet (xLook (lkFieldAddr (nat_lit 4) g22)) p23 
(oSet (xMove g23) p4 
oEnd)))) kRet)))⟩
def q132 : List Value := [(.string ⟨⟨[]⟩⟩), (.string ⟨⟨[]⟩⟩), (.string ⟨⟨[]⟩⟩), (.string ⟨⟨[]⟩⟩), (.string ⟨⟨[]⟩⟩), (.string ⟨⟨[]⟩⟩), (.string ⟨⟨[]⟩⟩), (.string ⟨⟨[]⟩⟩), (.string ⟨⟨[]⟩⟩), (.string ⟨⟨[]⟩⟩), (.string ⟨⟨[]⟩⟩), (.string ⟨⟨[]⟩⟩), (.string ⟨⟨[]⟩⟩), (.string ⟨⟨[]⟩⟩), (.string ⟨⟨[]⟩⟩), (.string ⟨⟨[]⟩⟩), (.string ⟨⟨[]⟩⟩), (.string ⟨⟨[]⟩⟩), (.string ⟨⟨[]⟩⟩)]
def q133 : OpdF := kC (.string ⟨⟨[110, 99]⟩⟩)
def q134 : OpdF := kC (.string ⟨⟨[110, 97, 99]⟩⟩)
def q135 : OpdF := kC (.string ⟨⟨[110, 97]⟩⟩)
def q136 : OpdF := kC (.string ⟨⟨[110, 97, 111]⟩⟩)
def q137 : OpdF := kC (.string ⟨⟨[110, 111]⟩⟩)
def q138 : OpdF := kC (.string ⟨⟨[110, 97, 107]⟩⟩)
def q139 : OpdF := kC (.string ⟨⟨[110, 97, 107, 101, 109]⟩⟩)
def q140 : OpdF := kC (.string ⟨⟨[110, 97, 111, 109]⟩⟩)
def q141 : OpdF := kC (.string ⟨⟨[110, 107, 120]⟩⟩)
def q142 : OpdF := kC (.string ⟨⟨[99]⟩⟩)
def q143 : OpdF := kC (.string ⟨⟨[99, 112]⟩⟩)
def q144 : OpdF := kC (.int .i64 (.ofNat (nat_lit 19)))
noncomputable def k47 : KFun := ⟨[rTmp (nat_lit 2) g2], (kSeq (oSet (xMove q33) p2 
oEnd) (kSeq (oSet (xLook (lkBuild q132 [((nat_lit 1), (nat_lit 1), q21), ((nat_lit 2), (nat_lit 1), q133), ((nat_lit 3), (nat_lit 1), q134), ((nat_lit 4), (nat_lit 1), q135), ((nat_lit 5), (nat_lit 1), q136), ((nat_lit 6), (nat_lit 1), q21), ((nat_lit 7), (nat_lit 1), q137), ((nat_lit 8), (nat_lit 1), q33), ((nat_lit 9), (nat_lit 1), q138), ((nat_lit 10), (nat_lit 1), q139), ((nat_lit 11), (nat_lit 1), q140), ((nat_lit 12), (nat_lit 1), q137), ((nat_lit 13), (nat_lit 1), q141), ((nat_lit 14), (nat_lit 1), q33), ((nat_lit 15), (nat_lit 1), q142), ((nat_lit 16), (nat_lit 1), q143), ((nat_lit 17), (nat_lit 1), q135), ((nat_lit 18), (nat_lit 1), q135)])) p4 
(oSet (xTurn (tnAlloc q132)) p3 
(oDo (xTurn (tnStore (nat_lit 19) g3 g4)) 
oEnd))) (kSeq (kSeq (oSet (xMove g0) p5 
(oSet (xLook (lkBin .lss g5 q16)) p6 
(oSet (xMove g6) p7 
(oSetIf (wantF g7) (xMove g0) p8 
(oSetIf (wantF g7) (xLook (lkBin .geq g8 q144)) p9 
(oSet (xLook (lkPick g7 q30 g9)) p10 
oEnd)))))) (kCond g10 (kSeq (oSet (xMove q33) p2 
oEnd) kRet) kSkip)) (kSeq (oSet (xMove g0) p11 
(oSet (xLook (lkIxArr (nat_lit 19) (nat_lit 1) g3 g11)) p12 
(oSet (xLook (lkLoad1 g12)) p13 
(oSet (xMove g13) p2 
oEnd)))) kRet))))⟩
def q145 : OpdF := kC (.func (.func (nat_lit 68)) ⟨[]⟩ ⟨[]⟩)
noncomputable def k48 : KFun := ⟨[], (kSeq (oSet (xMove g1) p9 
(oSet (xNil g9) p10 
(oSet (xLook (lkFieldAddr (nat_lit 0) g10)) p11 
(oSet (xLook (lkLoad1 g11)) p12 
(oSet (xCall q145 [g12]) p13 
(oSet (xMove g13) p8 
(oSet (xLook (lkExtract (nat_lit 0) g8)) p14 
(oSet (xLook (lkExtract (nat_lit 1) g8)) p15 
(oSet (xMove g14) p4 
(oSet (xMove g15) p5 
oEnd)))))))))) (kSeq (kDraw 
(dLook (nat_lit 0) [] [] (lkMove g0) p16 
(dLook (nat_lit 1) [] [] (lkMove g1) p17 
(dTurn (nat_lit 2) [] [] false (xNil g17) p18 
(dLook (nat_lit 3) [] [] (lkFieldAddr (nat_lit 7) g18) p19 
(dLook (nat_lit 4) [] [] (lkLoad1 g19) p20 
(dLook (nat_lit 5) [] [] (lkLen .sl g20) p21 
(dLook (nat_lit 6) [] [] (lkMove g4) p22 
(dLook (nat_lit 7) [] [] (lkMkFunc (.method "retcon/order.many") [g16] []) p23 
(dTurn (nat_lit 8) [] [] false (xNil g23) p24 
(dLook (nat_lit 9) [] [] (lkMove g16) p25 
(dTurn (nat_lit 10) [] [] true (xInvoke g25 "retcon/order.many" [g21, g22]) p26 
(dLook (nat_lit 11) [] [(nat_lit 10)] (lkMove g26) p6 (dEnd [(nat_lit 16), (nat_lit 17), (nat_lit 18), (nat_lit 19), (nat_lit 20), (nat_lit 21), (nat_lit 22), (nat_lit 23), (nat_lit 24), (nat_lit 25), (nat_lit 26), (nat_lit 6)])))))))))))))) (kSeq (oSet (xMove g6) p27 
(oSet (xMove q10) p28 
oEnd)) (kBlock (nat_lit 0) (kLoop (kSeq (oSet (xLook (lkBin .lss g28 g27)) p29 
oEnd) (kSeq (kCond g29 kSkip (kExit (nat_lit 0))) (kSeq (kBlock (nat_lit 1) (kSeq (oSet (xMove g28) p30 
(oSet (xMove g30) p7 
oEnd)) (kSeq (kSeq (oSet (xMove g7) p31 
(oSet (xMove g1) p32 
(oSet (xNil g32) p33 
(oSet (xLook (lkFieldAddr (nat_lit 7) g33)) p34 
(oSet (xLook (lkLoad1 g34)) p35 
(oSet (xLook (lkLen .sl g35)) p36 
(oSet (xLook (lkEq false .int g31 g36)) p37 
oEnd))))))) (kCond g37 (oSet (xMove g1) p38 
(oSet (xMove g1) p39 
(oSet (xNil g39) p40 
(oSet (xLook (lkFieldAddr (nat_lit 7) g40)) p41 
(oSet (xLook (lkLoad1 g41)) p42 
(oSet (xTurn (tnBuildSlice q5 [((nat_lit 0), (nat_lit 1), q33)] (nat_lit 1))) p43 
(oSet (xTurn (tnAppend (nat_lit 1) g42 g43)) p44 
(oSet (xNil g38) p45 
(oSet (xLook (lkFieldAddr (nat_lit 7) g45)) p46 
(oDo (xTurn (tnStore (nat_lit 1) g46 g44)) 
oEnd)))))))))) kSkip)) (kDraw 
(dLook (nat_lit 0) [] [] (lkMove g0) p47 
(dLook (nat_lit 1) [] [] (lkMove g1) p48 
(dTurn (nat_lit 2) [] [] false (xNil g48) p49 
(dLook (nat_lit 3) [] [] (lkFieldAddr (nat_lit 7) g49) p50 
(dLook (nat_lit 4) [] [] (lkLoad1 g50) p51 
(dLook (nat_lit 5) [] [] (lkMove g7) p52 
(dLook (nat_lit 6) [] [] (lkIxSl (nat_lit 1) g51 g52) p53 
(dLook (nat_lit 7) [] [] (lkMove g5) p54 
(dLook (nat_lit 8) [] [] (lkMkFunc (.method "retcon/order.text") [g47] []) p55 
(dTurn (nat_lit 9) [] [] false (xNil g55) p56 
(dLook (nat_lit 10) [] [] (lkMove g47) p57 
(dTurn (nat_lit 11) [] [] true (xInvoke g57 "retcon/order.text" [g53, g54]) p58 (dEnd [(nat_lit 47), (nat_lit 48), (nat_lit 49), (nat_lit 50), (nat_lit 51), (nat_lit 52), (nat_lit 53), (nat_lit 54), (nat_lit 55), (nat_lit 56), (nat_lit 57), (nat_lit 58)]))))))))))))))))) (oSet (xLook (lkBin .add g28 q16)) p59 
(oSet (xMove g59) p28 
oEnd))))))))))⟩
noncomputable def k50 : KFun := ⟨[rTmp (nat_lit 3) g3], (kSeq (oSet (xMove q0) p3 
oEnd) (kSeq (kSeq (oSet (xLook (lkLoad1 g1)) p6 
(oSet (xCall q95 [g6]) p7 
(oSet (xTurn (tnRangeStr g7)) p8 
oEnd))) (kBlock (nat_lit 0) (kLoop (kSeq (oSet (xTurn (tnNextStr g8)) p9 
(oSet (xLook (lkExtract (nat_lit 0) g9)) p10 
oEnd)) (kSeq (kCond g10 kSkip (kExit (nat_lit 0))) (kBlock (nat_lit 1) (kSeq (oSet (xLook (lkExtract (nat_lit 2) g9)) p11 
(oSet (xMove g11) p5 
oEnd)) (kSeq (oSet (xMove g5) p12 
(oSet (xMove g0) p13 
(oSet (xLook (lkEq false .int g12 g13)) p14 
oEnd))) (kCond g14 (kSeq (oSet (xMove q30) p3 
oEnd) kRet) kSkip))))))))) (kSeq (oSet (xMove q0) p3 
oEnd) kRet)))⟩
def q146 : List Value := [(.bool false)]
noncomputable def k51 : KFun := ⟨[rCell1 (nat_lit 4) g4], (kSeq (oSet (xTurn (tnBox g0)) p2 
(oSet (xTurn (tnAlloc q146)) p4 
oEnd)) (kSeq (kSeq (oSet (xLook (lkLoad1 g2)) p6 
(oSet (xLook (lkEq false .ptr g6 q2)) p7 
(oSet (xMove g7) p8 
(oSetIf (wantF g8) (xLook (lkLoad1 g2)) p9 
(oSetIf (wantF g8) (xNil g9) p10 
(oSetIf (wantF g8) (xLook (lkFieldAddr (nat_lit 0) g10)) p11 
(oSetIf (wantF g8) (xCall q124 [g11]) p12 
(oSet (xLook (lkPick g8 q30 g12)) p13 
(oSet (xMove g13) p14 
(oSetIf (wantF g14) (xLook (lkLoad1 g2)) p15 
(oSetIf (wantF g14) (xNil g15) p16 
(oSetIf (wantF g14) (xLook (lkFieldAddr (nat_lit 0) g16)) p17 
(oSetIf (wantF g14) (xLook (lkFieldAddr (nat_lit 2) g17)) p18 
(oSetIf (wantF g14) (xLook (lkFieldAddr (nat_lit 0) g18)) p19 
(oSetIf (wantF g14) (xLook (lkLoad1 g19)) p20 
(oSetIf (wantF g14) (xLook (lkEq true .int g20 q10)) p21 
(oSet (xLook (lkPick g14 q30 g21)) p22 
oEnd))))))))))))))))) (kCond g22 (kSeq (oDo (xTurn (tnStore (nat_lit 1) g4 q0)) 
oEnd) kRet) kSkip)) (kSeq (oSet (xLook (lkLoad1 g2)) p23 
(oSet (xNil g23) p24 
(oSet (xLook (lkFieldAddr (nat_lit 4) g24)) p25 
(oSet (xLook (lkLoad1 g25)) p26 
(oSet (xTurn (tnAlloc q9)) p5 
(oDo (xTurn (tnStore (nat_lit 1) g5 g26)) 
oEnd)))))) (kSeq (oSet (xLook (lkMkFunc (.func (nat_lit 69)) [] [g4, g5, g2])) p27 
(oDo (xDefer g27 []) 
oEnd)) (kSeq (oSet (xMove g1) p28 
(oSet (xCall g28 []) p29 
oEnd)) kRet)))))⟩
def q147 : OpdF := kC (.func (.func (nat_lit 53)) ⟨[]⟩ ⟨[]⟩)
noncomputable def k52 : KFun := ⟨[], (oSet (xLook (lkLoad1 g0)) p4 
(oSet (xLook (lkLoad1 g1)) p5 
(oSet (xLook (lkLoad1 g2)) p6 
(oSet (xCall q147 [g4, g5, g6, q19]) p7 
(oDo (xTurn (tnStore (nat_lit 1) g3 g7)) 
oEnd)))))⟩
def q148 : OpdF := kC (.func (.func (nat_lit 56)) ⟨[]⟩ ⟨[]⟩)
def q149 : OpdF := kC (.int .u8 (.ofNat (nat_lit 127)))
def q150 : OpdF := kC (.int .u8 (.ofNat (nat_lit 128)))
def q151 : OpdF := kC (.int .u8 (.ofNat (nat_lit 0)))
noncomputable def k53 : KFun := ⟨[rTmp (nat_lit 8) g8], (kSeq (oSet (xMove q10) p8 
oEnd) (kSeq (oSet (xMove g0) p14 
(oSet (xNil g14) p15 
(oSet (xLook (lkFieldAddr (nat_lit 4) g15)) p16 
(oSet (xLook (lkLoad1 g16)) p17 
(oSet (xTurn (tnAlloc q9)) p9 
(oDo (xTurn (tnStore (nat_lit 1) g9 g17)) 
(oSet (xMove q10) p10 
(oSet (xMove q10) p11 
oEnd)))))))) (kSeq (oSet (xLook (lkMkFunc (.func (nat_lit 70)) [] [g9])) p18 
(oSet (xMove g18) p12 
oEnd)) (kSeq (kBlock (nat_lit 0) (kLoop (kBlock (nat_lit 1) (kSeq (oSet (xMove g0) p19 
(oSet (xCall q148 [g19, q16]) p20 
(oSet (xLook (lkIxSl (nat_lit 1) g20 q10)) p21 
(oSet (xLook (lkLoad1 g21)) p22 
(oSet (xMove g22) p13 
oEnd))))) (kSeq (oSet (xMove g10) p23 
(oSet (xMove g13) p24 
(oSet (xLook (lkBin .and g24 q149)) p25 
(oSet (xLook (lkIntTo .i64 g25)) p26 
(oSet (xMove g11) p27 
(oSet (xLook (lkBin .mul q22 g27)) p28 
(oSet (xLook (lkBin .shl g26 g28)) p29 
(oSet (xLook (lkBin .or g23 g29)) p30 
(oSet (xMove g30) p10 
oEnd))))))))) (kSeq (oSet (xMove g11) p31 
(oSet (xLook (lkBin .add g31 q16)) p32 
(oSet (xMove g32) p11 
oEnd))) (kSeq (kSeq (oSet (xMove g13) p33 
(oSet (xLook (lkBin .lss g33 q150)) p34 
oEnd)) (kCond g34 (kSeq (kSeq (oSet (xMove g13) p35 
(oSet (xLook (lkEq false .int g35 q151)) p36 
(oSet (xMove g36) p37 
(oSetIf (wantT g37) (xMove g11) p38 
(oSetIf (wantT g37) (xLook (lkBin .gtr g38 q16)) p39 
(oSet (xLook (lkPick g37 g39 q0)) p40 
oEnd)))))) (kCond g40 (oSet (xMove g12) p41 
(oSet (xCall g41 [q17]) p42 
oEnd)) kSkip)) (kExit (nat_lit 0))) kSkip)) (kSeq (oSet (xMove g11) p43 
(oSet (xLook (lkEq false .int g43 q46)) p44 
oEnd)) (kCond g44 (oSet (xMove g12) p45 
(oSet (xCall g45 [q19]) p46 
oEnd)) kSkip))))))))) (kSeq (kBlock (nat_lit 2) (kSeq (oSet (xMove g10) p48 
(oSet (xMove g1) p49 
(oSet (xLook (lkBin .lss g48 g49)) p50 
(oSet (xMove g50) p47 
oEnd)))) (kCond g47 (oSet (xMove g12) p51 
(oSet (xCall g51 [q19]) p52 
oEnd)) (kSeq (oSet (xMove g10) p54 
(oSet (xMove g2) p55 
(oSet (xLook (lkBin .gtr g54 g55)) p56 
(oSet (xMove g56) p53 
oEnd)))) (kCond g53 (oSet (xMove g12) p57 
(oSet (xMove g3) p58 
(oSet (xCall g57 [g58]) p59 
oEnd))) kSkip))))) (kSeq (oSet (xMove g10) p60 
(oSet (xMove g60) p8 
oEnd)) kRet))))))⟩
noncomputable def k54 : KFun := ⟨[], (oSet (xLook (lkLoad1 g0)) p3 
(oSet (xLook (lkLoad1 g1)) p4 
(oSet (xCall q147 [g3, q10, g4, q7]) p5 
(oDo (xTurn (tnStore (nat_lit 1) g2 g5)) 
oEnd))))⟩
noncomputable def k55 : KFun := ⟨[], (kDraw 
(dLook (nat_lit 0) [] [] (lkLoad1 g0) p3 
(dLook (nat_lit 1) [] [] (lkLoad1 g0) p4 
(dLook (nat_lit 2) [] [] (lkLoad1 g1) p5 
(dTurn (nat_lit 3) [(nat_lit 0)] [] true (xCall q147 [g4, q10, g5, q7]) p6 
(dTurn (nat_lit 4) [] [(nat_lit 3)] true (xCall q148 [g3, g6]) p7 
(dLook (nat_lit 5) [] [(nat_lit 3), (nat_lit 4)] (lkBytesTo g7) p8 
(dTurn (nat_lit 6) [] [(nat_lit 3), (nat_lit 4)] true (xTurn (tnStore (nat_lit 1) g2 g8)) noDst (dEnd [(nat_lit 3), (nat_lit 4), (nat_lit 5), (nat_lit 6), (nat_lit 7), (nat_lit 8)])))))))))⟩
noncomputable def k56 : KFun := ⟨[rTmp (nat_lit 4) g4], (kSeq (oSet (xMove q12) p4 
oEnd) (kSeq (kSeq (kDraw 
(dLook (nat_lit 0) [] [] (lkMove g1) p5 
(dLook (nat_lit 1) [] [] (lkMove g0) p6 
(dTurn (nat_lit 2) [] [] false (xNil g6) p7 
(dLook (nat_lit 3) [] [] (lkFieldAddr (nat_lit 0) g7) p8 
(dLook (nat_lit 4) [] [] (lkFieldAddr (nat_lit 1) g8) p9 
(dLook (nat_lit 5) [] [] (lkLoad1 g9) p10 
(dLook (nat_lit 6) [] [] (lkLen .sl g10) p11 
(dLook (nat_lit 7) [] [] (lkMove g0) p12 
(dTurn (nat_lit 8) [] [] false (xNil g12) p13 
(dLook (nat_lit 9) [] [] (lkFieldAddr (nat_lit 4) g13) p14 
(dLook (nat_lit 10) [] [] (lkLoad1 g14) p15 
(dLook (nat_lit 11) [] [] (lkBin .sub g11 g15) p16 
(dLook (nat_lit 12) [] [] (lkBin .gtr g5 g16) p17 (dEnd [(nat_lit 5), (nat_lit 6), (nat_lit 7), (nat_lit 8), (nat_lit 9), (nat_lit 10), (nat_lit 11), (nat_lit 12), (nat_lit 13), (nat_lit 14), (nat_lit 15), (nat_lit 16), (nat_lit 17)]))))))))))))))) (kCond g17 (oSet (xMove g0) p18 
(oSet (xNil g18) p19 
(oSet (xLook (lkFieldAddr (nat_lit 0) g19)) p20 
(oSet (xLook (lkFieldAddr (nat_lit 1) g20)) p21 
(oSet (xLook (lkLoad1 g21)) p22 
(oSet (xLook (lkLen .sl g22)) p23 
(oSet (xLook (lkBuild q40 [((nat_lit 0), (nat_lit 1), q17), ((nat_lit 1), (nat_lit 1), g23)])) p24 
(oSet (xLook (lkBuild q40 [((nat_lit 0), (nat_lit 2), g24)])) p25 
(oSet (xLook (lkMkIface (nat_lit 140) g25)) p26 
(oDo (xPanic g26) 
oEnd)))))))))) kSkip)) (kSeq (oSet (xMove g0) p27 
(oSet (xNil g27) p28 
(oSet (xLook (lkFieldAddr (nat_lit 4) g28)) p29 
(oSet (xLook (lkLoad1 g29)) p30 
(oSet (xMove g1) p31 
(oSet (xLook (lkBin .add g30 g31)) p32 
(oSet (xNil g27) p33 
(oSet (xLook (lkFieldAddr (nat_lit 4) g33)) p34 
(oDo (xTurn (tnStore (nat_lit 1) g34 g32)) 
oEnd))))))))) (kSeq (kDraw 
(dLook (nat_lit 0) [] [] (lkMove g0) p35 
(dTurn (nat_lit 1) [] [] false (xNil g35) p36 
(dLook (nat_lit 2) [] [] (lkFieldAddr (nat_lit 0) g36) p37 
(dLook (nat_lit 3) [] [] (lkFieldAddr (nat_lit 1) g37) p38 
(dLook (nat_lit 4) [] [] (lkLoad1 g38) p39 
(dLook (nat_lit 5) [] [] (lkMove g0) p40 
(dTurn (nat_lit 6) [] [] false (xNil g40) p41 
(dLook (nat_lit 7) [] [] (lkFieldAddr (nat_lit 4) g41) p42 
(dLook (nat_lit 8) [] [] (lkLoad1 g42) p43 
(dLook (nat_lit 9) [] [] (lkMove g1) p44 
(dLook (nat_lit 10) [] [] (lkBin .sub g43 g44) p45 
(dLook (nat_lit 11) [] [] (lkMove g0) p46 
(dTurn (nat_lit 12) [] [] false (xNil g46) p47 
(dLook (nat_lit 13) [] [] (lkFieldAddr (nat_lit 4) g47) p48 
(dLook (nat_lit 14) [] [] (lkLoad1 g48) p49 
(dLook (nat_lit 15) [] [] (lkSliceSl (nat_lit 1) g39 (some g45) (some g49) none) p50 
(dLook (nat_lit 16) [] [] (lkMove g50) p4 (dEnd [(nat_lit 35), (nat_lit 36), (nat_lit 37), (nat_lit 38), (nat_lit 39), (nat_lit 40), (nat_lit 41), (nat_lit 42), (nat_lit 43), (nat_lit 44), (nat_lit 45), (nat_lit 46), (nat_lit 47), (nat_lit 48), (nat_lit 49), (nat_lit 50), (nat_lit 4)]))))))))))))))))))) kRet))))⟩
noncomputable def k57 : KFun := ⟨[rCellN (nat_lit 2) g2 (nat_lit 2)], (kSeq (oSet (xTurn (tnAlloc q40)) p2 
oEnd) (kSeq (kSeq (oSet (xMove g0) p3 
(oSet (xLook (lkEq false .ptr g3 q2)) p4 
(oSet (xMove g4) p5 
(oSetIf (wantF g5) (xMove g0) p6 
(oSetIf (wantF g5) (xNil g6) p7 
(oSetIf (wantF g5) (xLook (lkFieldAddr (nat_lit 0) g7)) p8 
(oSetIf (wantF g5) (xCall q124 [g8]) p9 
(oSet (xLook (lkPick g5 q30 g9)) p10 
oEnd)))))))) (kCond g10 (kSeq (oSet (xLook (lkBuild q40 [((nat_lit 0), (nat_lit 1), q16)])) p11 
(oDo (xTurn (tnStore (nat_lit 2) g2 g11)) 
oEnd)) kRet) kSkip)) (kSeq (oSet (xMove g0) p12 
(oSet (xNil g12) p13 
(oSet (xLook (lkFieldAddr (nat_lit 0) g13)) p14 
(oSet (xLook (lkFieldAddr (nat_lit 2) g14)) p15 
(oSet (xLook (lkLoadN (nat_lit 2) g15)) p16 
(oDo (xTurn (tnStore (nat_lit 2) g2 g16)) 
oEnd)))))) kRet)))⟩
noncomputable def k58 : KFun := ⟨[rTmp (nat_lit 2) g2], (kSeq (oSet (xMove q10) p2 
oEnd) (kSeq (kSeq (oSet (xMove g0) p3 
(oSet (xLook (lkEq false .ptr g3 q2)) p4 
(oSet (xMove g4) p5 
(oSetIf (wantF g5) (xMove g0) p6 
(oSetIf (wantF g5) (xNil g6) p7 
(oSetIf (wantF g5) (xLook (lkFieldAddr (nat_lit 0) g7)) p8 
(oSetIf (wantF g5) (xCall q124 [g8]) p9 
(oSet (xLook (lkPick g5 q30 g9)) p10 
oEnd)))))))) (kCond g10 (kSeq (oSet (xMove q10) p2 
oEnd) kRet) kSkip)) (kSeq (kDraw 
(dLook (nat_lit 0) [] [] (lkMove g0) p11 
(dTurn (nat_lit 1) [] [] false (xNil g11) p12 
(dLook (nat_lit 2) [] [] (lkFieldAddr (nat_lit 0) g12) p13 
(dLook (nat_lit 3) [] [] (lkFieldAddr (nat_lit 1) g13) p14 
(dLook (nat_lit 4) [] [] (lkLoad1 g14) p15 
(dLook (nat_lit 5) [] [] (lkLen .sl g15) p16 
(dLook (nat_lit 6) [] [] (lkMove g0) p17 
(dTurn (nat_lit 7) [] [] false (xNil g17) p18 
(dLook (nat_lit 8) [] [] (lkFieldAddr (nat_lit 4) g18) p19 
(dLook (nat_lit 9) [] [] (lkLoad1 g19) p20 
(dLook (nat_lit 10) [] [] (lkBin .sub g16 g20) p21 
(dLook (nat_lit 11) [] [] (lkMove g21) p2 (dEnd [(nat_lit 11), (nat_lit 12), (nat_lit 13), (nat_lit 14), (nat_lit 15), (nat_lit 16), (nat_lit 17), (nat_lit 18), (nat_lit 19), (nat_lit 20), (nat_lit 21), (nat_lit 2)])))))))))))))) kRet)))⟩
noncomputable def k59 : KFun := ⟨[rCellN (nat_lit 2) g2 (nat_lit 2)], (kSeq (oSet (xTurn (tnAlloc q40)) p2 
oEnd) (kSeq (kSeq (oSet (xMove g0) p3 
(oSet (xNil g3) p4 
(oSet (xLook (lkFieldAddr (nat_lit 1) g4)) p5 
(oSet (xLook (lkFieldAddr (nat_lit 0) g5)) p6 
(oSet (xLook (lkLoad1 g6)) p7 
(oSet (xLook (lkEq true .int g7 q10)) p8 
oEnd)))))) (kCond g8 (kSeq (oSet (xMove g0) p9 
(oSet (xNil g9) p10 
(oSet (xLook (lkFieldAddr (nat_lit 1) g10)) p11 
(oSet (xLook (lkLoadN (nat_lit 2) g11)) p12 
(oDo (xTurn (tnStore (nat_lit 2) g2 g12)) 
oEnd))))) kRet) kSkip)) (kSeq (oSet (xMove g0) p13 
(oSet (xNil g13) p14 
(oSet (xLook (lkFieldAddr (nat_lit 0) g14)) p15 
(oSet (xLook (lkLoad1 g15)) p16 
(oSet (xCall q112 [g16]) p17 
(oDo (xTurn (tnStore (nat_lit 2) g2 g17)) 
oEnd)))))) kRet)))⟩
def q152 : OpdF := kC .nilIface
noncomputable def k60 : KFun := ⟨[], (kSeq (oSet xRecover p6 
oEnd) (kBlock (nat_lit 0) (kSeq (oSet (xLook (lkEq false .ifaceNil g6 q152)) p8 
oEnd) (kCond g8 (oSet (xMove g6) p3 
oEnd) (kSeq (oSet (xLook (lkAssertT (nat_lit 126) (.agg ⟨[(.int .i64 (.ofNat (nat_lit 0)))]⟩) true g6)) p9 
(oSet (xLook (lkExtract (nat_lit 1) g9)) p10 
(oSet (xLook (lkExtract (nat_lit 0) g9)) p11 
oEnd))) (kCond g10 (kSeq (oSet (xTurn (tnAlloc q9)) p4 
(oDo (xTurn (tnStore (nat_lit 1) g4 g11)) 
oEnd)) (oSet (xLook (lkLoad1 g2)) p12 
(oSet (xLook (lkFieldAddr (nat_lit 0) g4)) p13 
(oSet (xLook (lkLoad1 g13)) p14 
(oSet (xLook (lkBuild q15 [((nat_lit 0), (nat_lit 1), g14)])) p15 
(oSet (xLook (lkLoad1 g0)) p16 
(oDo (xTurn (tnStore (nat_lit 5) g1 g15)) 
(oSet (xNil g12) p17 
(oSet (xLook (lkFieldAddr (nat_lit 0) g17)) p18 
(oDo (xTurn (tnStore (nat_lit 1) g18 g16)) 
oEnd)))))))))) (kSeq (oSet (xMove g6) p5 
oEnd) (oSet (xMove g5) p7 
(oDo (xPanic g7) 
oEnd)))))))))⟩
def q153 : OpdF := kC (.map none)
def q154 : OpdF := kC (.int .i64 (.ofNat (nat_lit 11)))
def q155 : OpdF := kC (.int .i64 (.ofNat (nat_lit 12)))
def q156 : OpdF := kC (.int .i64 (.ofNat (nat_lit 13)))
def q157 : OpdF := kC (.int .i64 (.ofNat (nat_lit 17)))
noncomputable def k61 : KFun := ⟨[rTmp (nat_lit 2) g2], (kSeq (oSet (xMove q153) p2 
oEnd) (kSeq (oSet (xTurn (tnMkMap (.one (.int .i64)))) p3 
(oSet (xMove g0) p4 
(oSet (xLook (lkMkFunc (.func (nat_lit 71)) [g4] [])) p5 
(oDo (xTurn (tnMapUpdate (.one (.int .i64)) g3 q16 g5)) 
(oSet (xMove g0) p6 
(oSet (xLook (lkMkFunc (.func (nat_lit 72)) [g6] [])) p7 
(oDo (xTurn (tnMapUpdate (.one (.int .i64)) g3 q18 g7)) 
(oSet (xMove g0) p8 
(oSet (xLook (lkMkFunc (.func (nat_lit 73)) [g8] [])) p9 
(oDo (xTurn (tnMapUpdate (.one (.int .i64)) g3 q7 g9)) 
(oSet (xMove g0) p10 
(oSet (xLook (lkMkFunc (.func (nat_lit 73)) [g10] [])) p11 
(oDo (xTurn (tnMapUpdate (.one (.int .i64)) g3 q17 g11)) 
(oSet (xMove g0) p12 
(oSet (xLook (lkMkFunc (.func (nat_lit 74)) [g12] [])) p13 
(oDo (xTurn (tnMapUpdate (.one (.int .i64)) g3 q19 g13)) 
(oSet (xMove g0) p14 
(oSet (xLook (lkMkFunc (.func (nat_lit 75)) [g14] [])) p15 
(oDo (xTurn (tnMapUpdate (.one (.int .i64)) g3 q20 g15)) 
(oSet (xMove g0) p16 
(oSet (xLook (lkMkFunc (.func (nat_lit 76)) [g16] [])) p17 
(oDo (xTurn (tnMapUpdate (.one (.int .i64)) g3 q22 g17)) 
(oSet (xMove g0) p18 
(oSet (xLook (lkMkFunc (.func (nat_lit 77)) [g18] [])) p19 
(oDo (xTurn (tnMapUpdate (.one (.int .i64)) g3 q45 g19)) 
(oSet (xMove g0) p20 
(oSet (xLook (lkMkFunc (.func (nat_lit 78)) [g20] [])) p21 
(oDo (xTurn (tnMapUpdate (.one (.int .i64)) g3 q46 g21)) 
(oSet (xMove g0) p22 
(oSet (xLook (lkMkFunc (.func (nat_lit 79)) [g22] [])) p23 
(oDo (xTurn (tnMapUpdate (.one (.int .i64)) g3 q103 g23)) 
(oSet (xMove g0) p24 
(oSet (xLook (lkMkFunc (.func (nat_lit 80)) [g24] [])) p25 
(oDo (xTurn (tnMapUpdate (.one (.int .i64)) g3 q154 g25)) 
(oSet (xMove g0) p26 
(oSet (xLook (lkMkFunc (.func (nat_lit 81)) [g26] [])) p27 
(oDo (xTurn (tnMapUpdate (.one (.int .i64)) g3 q155 g27)) 
(oSet (xMove g0) p28 
(oSet (xLook (lkMkFunc (.func (nat_lit 82)) [g28] [])) p29 
(oDo (xTurn (tnMapUpdate (.one (.int .i64)) g3 q156 g29)) 
(oSet (xMove g0) p30 
(oSet (xLook (lkMkFunc (.func (nat_lit 83)) [g30] [])) p31 
(oDo (xTurn (tnMapUpdate (.one (.int .i64)) g3 q23 g31)) 
(oSet (xMove g0) p32 
(oSet (xLook (lkMkFunc (.func (nat_lit 84)) [g32] [])) p33 
(oDo (xTurn (tnMapUpdate (.one (.int .i64)) g3 q121 g33)) 
(oSet (xMove g0) p34 
(oSet (xLook (lkMkFunc (.func (nat_lit 85)) [g34] [])) p35 
(oDo (xTurn (tnMapUpdate (.one (.int .i64)) g3 q74 g35)) 
(oSet (xMove g0) p36 
(oSet (xLook (lkMkFunc (.func (nat_lit 86)) [g36] [])) p37 
(oDo (xTurn (tnMapUpdate (.one (.int .i64)) g3 q157 g37)) 
(oSet (xMove g0) p38 
(oSet (xLook (lkMkFunc (.func (nat_lit 87)) [g38] [])) p39 
(oDo (xTurn (tnMapUpdate (.one (.int .i64)) g3 q13 g39)) 
(oSet (xMove g3) p40 
(oSet (xMove g40) p2 
oEnd))))))))))))))))))))))))))))))))))))))))))))))))))))))))) kRet))⟩
noncomputable def k62 : KFun := ⟨[], (kSeq (oSet (xMove g0) p4 
oEnd) (kCond g4 (oSet (xMove g1) p5 
(oSet (xLook (lkBuild q9 [((nat_lit 0), (nat_lit 1), g5)])) p6 
(oSet (xLook (lkMkIface (nat_lit 126) g6)) p7 
(oDo (xPanic g7) 
oEnd)))) kSkip))⟩
noncomputable def k63 : KFun := ⟨[rTmp (nat_lit 2) g2], (kSeq (oSet (xTurn (tnBox g0)) p1 
(oSet (xMove q10) p2 
oEnd)) (kSeq (oSet (xLook (lkFieldAddr (nat_lit 1) g1)) p12 
(oSet (xLook (lkLoad1 g12)) p13 
(oSet (xLook (lkLen .sl g13)) p14 
(oSet (xLook (lkFieldAddr (nat_lit 2) g1)) p15 
(oSet (xLook (lkLoad1 g15)) p16 
(oSet (xLook (lkLen .sl g16)) p17 
(oSet (xLook (lkFieldAddr (nat_lit 3) g1)) p18 
(oSet (xLook (lkLoad1 g18)) p19 
(oSet (xLook (lkLen .sl g19)) p20 
(oSet (xLook (lkFieldAddr (nat_lit 4) g1)) p21 
(oSet (xLook (lkLoad1 g21)) p22 
(oSet (xLook (lkLen .sl g22)) p23 
(oSet (xLook (lkMax g14 [g17, g20, g23])) p24 
(oSet (xMove g24) p3 
oEnd)))))))))))))) (kSeq (kSeq (oSet (xLook (lkFieldAddr (nat_lit 0) g1)) p25 
(oSet (xLook (lkLoad1 g25)) p26 
(oSet (xLook (lkBin .lss g26 q10)) p27 
(oSet (xMove g27) p28 
(oSetIf (wantF g28) (xLook (lkFieldAddr (nat_lit 0) g1)) p29 
(oSetIf (wantF g28) (xLook (lkLoad1 g29)) p30 
(oSetIf (wantF g28) (xLook (lkBin .gtr g30 q61)) p31 
(oSet (xLook (lkPick g28 q30 g31)) p32 
(oSet (xMove g32) p33 
(oSetIf (wantF g33) (xMove g3) p34 
(oSetIf (wantF g33) (xLook (lkBin .gtr g34 q63)) p35 
(oSet (xLook (lkPick g33 q30 g35)) p36 
(oSet (xMove g36) p37 
(oSetIf (wantF g37) (xLook (lkFieldAddr (nat_lit 0) g1)) p38 
(oSetIf (wantF g37) (xLook (lkLoad1 g38)) p39 
(oSetIf (wantF g37) (xLook (lkEq true .int g39 q10)) p40 
(oSetIf (wantF g37) (xMove g40) p41 
(oSetIf (wantT g41) (xMove g3) p42 
(oSetIf (wantT g41) (xLook (lkBin .gtr g42 q10)) p43 
(oSetIf (wantF g37) (xLook (lkPick g41 g43 q0)) p44 
(oSet (xLook (lkPick g37 q30 g44)) p45 
oEnd))))))))))))))))))))) (kCond g45 (kSeq (oSet (xMove q18) p2 
oEnd) kRet) kSkip)) (kSeq (kSeq (oSet (xLook (lkFieldAddr (nat_lit 1) g1)) p46 
(oSet (xLook (lkLoad1 g46)) p47 
(oSet (xLook (lkLen .sl g47)) p48 
(oSet (xMove q10) p49 
oEnd)))) (kBlock (nat_lit 0) (kLoop (kSeq (oSet (xLook (lkBin .lss g49 g48)) p50 
oEnd) (kSeq (kCond g50 kSkip (kExit (nat_lit 0))) (kSeq (kBlock (nat_lit 1) (kSeq (oSet (xLook (lkIxSl (nat_lit 1) g47 g49)) p51 
(oSet (xLook (lkLoad1 g51)) p52 
(oSet (xMove g52) p5 
oEnd))) (kSeq (oSet (xMove g5) p53 
(oSet (xLook (lkBin .lss g53 q10)) p54 
oEnd)) (kCond g54 (kSeq (oSet (xMove q18) p2 
oEnd) kRet) kSkip)))) (oSet (xLook (lkBin .add g49 q16)) p55 
(oSet (xMove g55) p49 
oEnd)))))))) (kSeq (kSeq (oSet (xLook (lkFieldAddr (nat_lit 2) g1)) p56 
(oSet (xLook (lkLoad1 g56)) p57 
(oSet (xLook (lkLen .sl g57)) p58 
(oSet (xMove q10) p59 
oEnd)))) (kBlock (nat_lit 2) (kLoop (kSeq (oSet (xLook (lkBin .lss g59 g58)) p60 
oEnd) (kSeq (kCond g60 kSkip (kExit (nat_lit 2))) (kSeq (kBlock (nat_lit 3) (kSeq (oSet (xLook (lkIxSl (nat_lit 1) g57 g59)) p61 
(oSet (xLook (lkLoad1 g61)) p62 
(oSet (xMove g62) p7 
oEnd))) (kSeq (oSet (xMove g7) p63 
(oSet (xLook (lkLen .str g63)) p64 
(oSet (xLook (lkBin .gtr g64 q66)) p65 
oEnd))) (kCond g65 (kSeq (oSet (xMove q18) p2 
oEnd) kRet) kSkip)))) (oSet (xLook (lkBin .add g59 q16)) p66 
(oSet (xMove g66) p59 
oEnd)))))))) (kSeq (kSeq (oSet (xLook (lkFieldAddr (nat_lit 3) g1)) p67 
(oSet (xLook (lkLoad1 g67)) p68 
(oSet (xLook (lkLen .sl g68)) p69 
(oSet (xMove q10) p70 
oEnd)))) (kBlock (nat_lit 4) (kLoop (kSeq (oSet (xLook (lkBin .lss g70 g69)) p71 
oEnd) (kSeq (kCond g71 kSkip (kExit (nat_lit 4))) (kSeq (kBlock (nat_lit 5) (kSeq (oSet (xLook (lkIxSl (nat_lit 2) g68 g70)) p72 
(oSet (xLook (lkLoadN (nat_lit 2) g72)) p73 
(oSet (xTurn (tnAlloc q67)) p9 
(oDo (xTurn (tnStore (nat_lit 2) g9 g73)) 
oEnd)))) (kSeq (oSet (xLook (lkFieldAddr (nat_lit 0) g9)) p74 
(oSet (xLook (lkLoad1 g74)) p75 
(oSet (xLook (lkLen .str g75)) p76 
(oSet (xLook (lkBin .gtr g76 q68)) p77 
(oSet (xMove g77) p78 
(oSetIf (wantF g78) (xLook (lkFieldAddr (nat_lit 1) g9)) p79 
(oSetIf (wantF g78) (xLook (lkLoad1 g79)) p80 
(oSetIf (wantF g78) (xLook (lkLen .str g80)) p81 
(oSetIf (wantF g78) (xLook (lkBin .gtr g81 q68)) p82 
(oSet (xLook (lkPick g78 q30 g82)) p83 
oEnd)))))))))) (kCond g83 (kSeq (oSet (xMove q18) p2 
oEnd) kRet) kSkip)))) (oSet (xLook (lkBin .add g70 q16)) p84 
(oSet (xMove g84) p70 
oEnd)))))))) (kSeq (kSeq (oSet (xLook (lkFieldAddr (nat_lit 4) g1)) p85 
(oSet (xLook (lkLoad1 g85)) p86 
(oSet (xLook (lkLen .sl g86)) p87 
(oSet (xMove q10) p88 
oEnd)))) (kBlock (nat_lit 6) (kLoop (kSeq (oSet (xLook (lkBin .lss g88 g87)) p89 
oEnd) (kSeq (kCond g89 kSkip (kExit (nat_lit 6))) (kSeq (kBlock (nat_lit 7) (kSeq (oSet (xLook (lkIxSl (nat_lit 3) g86 g88)) p90 
(oSet (xLook (lkLoadN (nat_lit 3) g90)) p91 
(oSet (xTurn (tnAlloc q69)) p11 
(oDo (xTurn (tnStore (nat_lit 3) g11 g91)) 
oEnd)))) (kSeq (oSet (xLook (lkFieldAddr (nat_lit 0) g11)) p92 
(oSet (xLook (lkLoad1 g92)) p93 
(oSet (xLook (lkLen .str g93)) p94 
(oSet (xLook (lkBin .gtr g94 q68)) p95 
(oSet (xMove g95) p96 
(oSetIf (wantF g96) (xLook (lkFieldAddr (nat_lit 1) g11)) p97 
(oSetIf (wantF g96) (xLook (lkLoad1 g97)) p98 
(oSetIf (wantF g96) (xLook (lkLen .str g98)) p99 
(oSetIf (wantF g96) (xLook (lkBin .gtr g99 q68)) p100 
(oSet (xLook (lkPick g96 q30 g100)) p101 
(oSet (xMove g101) p102 
(oSetIf (wantF g102) (xLook (lkFieldAddr (nat_lit 2) g11)) p103 
(oSetIf (wantF g102) (xLook (lkLoad1 g103)) p104 
(oSetIf (wantF g102) (xMove g104) p105 
(oSetIf (wantT g105) (xLook (lkFieldAddr (nat_lit 1) g11)) p106 
(oSetIf (wantT g105) (xLook (lkLoad1 g106)) p107 
(oSetIf (wantT g105) (xLook (lkEq true .str g107 q33)) p108 
(oSetIf (wantF g102) (xLook (lkPick g105 g108 q0)) p109 
(oSet (xLook (lkPick g102 q30 g109)) p110 
oEnd))))))))))))))))))) (kCond g110 (kSeq (oSet (xMove q18) p2 
oEnd) kRet) kSkip)))) (oSet (xLook (lkBin .add g88 q16)) p111 
(oSet (xMove g111) p88 
oEnd)))))))) (kSeq (oSet (xMove q10) p2 
oEnd) kRet))))))))⟩
def q158 : OpdF := kC (.func (.func (nat_lit 88)) ⟨[]⟩ ⟨[]⟩)
def q159 : OpdF := kC (.func (.func (nat_lit 89)) ⟨[]⟩ ⟨[]⟩)
def q160 : OpdF := kC (.func (.func (nat_lit 90)) ⟨[]⟩ ⟨[]⟩)
def q161 : List Value := [(.bool false), (.bool false), (.bool false), (.bool false), (.bool false), (.bool false), (.bool false), (.bool false), (.bool false), (.bool false), (.bool false), (.bool false), (.bool false), (.bool false), (.bool false), (.bool false), (.bool false), (.bool false), (.bool false), (.bool false), (.bool false), (.bool false), (.bool false), (.bool false), (.bool false), (.bool false), (.bool false), (.bool false), (.bool false), (.bool false), (.bool false), (.bool false), (.bool false), (.bool false), (.bool false), (.bool false), (.bool false), (.bool false), (.bool false), (.bool false), (.bool false), (.bool false), (.bool false), (.bool false), (.bool false), (.bool false), (.bool false), (.bool false), (.bool false), (.bool false), (.bool false), (.bool false), (.bool false), (.bool false), (.bool false), (.bool false), (.bool false), (.bool false), (.bool false), (.bool false), (.bool false), (.bool false), (.bool false), (.bool false), (.bool false), (.bool false), (.bool false), (.bool false), (.bool false), (.bool false), (.bool false), (.bool false), (.bool false), (.bool false), (.bool false), (.bool false), (.bool false), (.bool false), (.bool false), (.bool false), (.bool false), (.bool false), (.bool false), (.bool false), (.bool false), (.bool false), (.bool false), (.bool false), (.bool false), (.bool false), (.bool false), (.bool false), (.bool false), (.bool false), (.bool false), (.bool false), (.bool false), (.bool false), (.bool false), (.bool false), (.bool false), (.bool false), (.bool false), (.bool false), (.bool false), (.bool false), (.bool false), (.bool false), (.bool false), (.bool false), (.bool false), (.bool false), (.bool false), (.bool false), (.bool false), (.bool false), (.bool false), (.bool false), (.bool false), (.bool false), (.bool false), (.bool false), (.bool false), (.bool false), (.bool false), (.bool false), (.bool false), (.bool false), (.bool false), (.bool false), (.bool false), (.bool false), (.bool false), (.bool false), (.bool false), (.bool false), (.bool false), (.bool false), (.bool false), (.bool false), (.bool false), (.bool false), (.bool false), (.bool false), (.bool false), (.bool false), (.bool false), (.bool false), (.bool false), (.bool false), (.bool false), (.bool false), (.bool false), (.bool false), (.bool false), (.bool false), (.bool false), (.bool false), (.bool false), (.bool false), (.bool false), (.bool false), (.bool false), (.bool false), (.bool false), (.bool false), (.bool false), (.bool false), (.bool false), (.bool false), (.bool false), (.bool false), (.bool false), (.bool false), (.bool false), (.bool false), (.bool false), (.bool false), (.bool false), (.bool false), (.bool false), (.bool false), (.bool false), (.bool false), (.bool false), (.bool false), (.bool false), (.bool false), (.bool false), (.bool false), (.bool false), (.bool false), (.bool false), (.bool false), (.bool false), (.bool false), (.bool false), (.bool false), (.bool false), (.bool false), (.bool false), (.bool false), (.bool false), (.bool false), (.bool false), (.bool false), (.bool false), (.bool false), (.bool false), (.bool false), (.bool false), (.bool false), (.bool false), (.bool false), (.bool false), (.bool false), (.bool false), (.bool false), (.bool false), (.bool false), (.bool false), (.bool false), (.bool false), (.bool false), (.bool false), (.bool false), (.bool false), (.bool false), (.bool false), (.bool false), (.bool false), (.bool false), (.bool false), (.bool false), (.bool false), (.bool false), (.bool false), (.bool false), (.bool false), (.bool false), (.bool false), (.bool false), (.bool false), (.bool false), (.bool false), (.bool false), (.bool false), (.bool false), (.bool false), (.bool false), (.bool false), (.bool false), (.bool false), (.bool false), (.bool false), (.bool false)]
def q162 : OpdF := kC (.func (.func (nat_lit 92)) ⟨[]⟩ ⟨[]⟩)
def q163 : OpdF := kC (.func (.func (nat_lit 91)) ⟨[]⟩ ⟨[]⟩)
def q164 : OpdF := kC (.func (.func (nat_lit 94)) ⟨[]⟩ ⟨[]⟩)
def q165 : OpdF := kC (.func (.func (nat_lit 93)) ⟨[]⟩ ⟨[]⟩)
noncomputable def k64 : KFun := ⟨[rTmp (nat_lit 4) g4], (kSeq (oSet (xMove q33) p4 
oEnd) (kSeq (kSeq (oSet (xMove g0) p7 
(oSet (xLook (lkEq false .str g7 q33)) p8 
(oSet (xMove g8) p9 
(oSetIf (wantF g9) (xMove g1) p10 
(oSetIf (wantF g9) (xLook (lkEq false .str g10 q33)) p11 
(oSet (xLook (lkPick g9 q30 g11)) p12 
oEnd)))))) (kCond g12 (kSeq (oSet (xMove g0) p13 
(oSet (xMove g13) p4 
oEnd)) kRet) kSkip)) (kSeq (kSeq (oSet (xMove g1) p14 
(oSet (xLook (lkLen .str g14)) p15 
(oSet (xLook (lkEq false .int g15 q16)) p16 
(oSet (xMove g16) p17 
(oSetIf (wantT g17) (xMove g1) p18 
(oSetIf (wantT g17) (xLook (lkIxStr g18 q10)) p19 
(oSetIf (wantT g17) (xLook (lkBin .lss g19 q150)) p20 
(oSet (xLook (lkPick g17 g20 q0)) p21 
oEnd)))))))) (kCond g21 (kSeq (kDraw 
(dLook (nat_lit 0) [] [] (lkMove g0) p22 
(dLook (nat_lit 1) [] [] (lkMove g1) p23 
(dLook (nat_lit 2) [] [] (lkIxStr g23 q10) p24 
(dTurn (nat_lit 3) [] [] true (xCall q159 [g22, g24]) p25 
(dLook (nat_lit 4) [] [] (lkMove g1) p26 
(dLook (nat_lit 5) [] [] (lkIxStr g26 q10) p27 
(dTurn (nat_lit 6) [] [(nat_lit 3)] true (xCall q158 [g25, g27]) p28 
(dLook (nat_lit 7) [] [(nat_lit 3), (nat_lit 6)] (lkMove g28) p4 (dEnd [(nat_lit 22), (nat_lit 23), (nat_lit 24), (nat_lit 25), (nat_lit 26), (nat_lit 27), (nat_lit 28), (nat_lit 4)])))))))))) kRet) kSkip)) (kSeq (kSeq (oSet (xMove g1) p30 
(oSet (xCall q160 [g30]) p31 
(oSet (xMove g31) p29 
(oSet (xLook (lkExtract (nat_lit 0) g29)) p32 
(oSet (xLook (lkExtract (nat_lit 1) g29)) p33 
(oSet (xTurn (tnAlloc q161)) p5 
(oDo (xTurn (tnStore (nat_lit 256) g5 g32)) 
(oSet (xMove g33) p6 
oEnd)))))))) (kSeq (oSet (xMove g6) p34 
oEnd) (kCond g34 (kSeq (oSet (xMove g0) p35 
(oSet (xCall q162 [g35, g5]) p36 
(oSet (xCall q163 [g36, g5]) p37 
(oSet (xMove g37) p4 
oEnd)))) kRet) kSkip))) (kSeq (oSet (xMove g0) p38 
(oSet (xMove g1) p39 
(oSet (xCall q164 [g38, g39]) p40 
(oSet (xMove g1) p41 
(oSet (xCall q165 [g40, g41]) p42 
(oSet (xMove g42) p4 
oEnd)))))) kRet)))))⟩
noncomputable def k66 : KFun := ⟨[rTmp (nat_lit 4) g4], (kSeq (oSet (xMove q0) p4 
oEnd) (kSeq (oSet (xMove g0) p5 
(oSet (xMove g1) p6 
(oSet (xLook (lkIxSl (nat_lit 6) g5 g6)) p7 
(oSet (xLook (lkFieldAddr (nat_lit 0) g7)) p8 
(oSet (xLook (lkLoad1 g8)) p9 
(oSet (xLook (lkEq false .int g9 q155)) p10 
(oSet (xMove g10) p11 
(oSetIf (wantF g11) (xMove g0) p12 
(oSetIf (wantF g11) (xMove g1) p13 
(oSetIf (wantF g11) (xLook (lkIxSl (nat_lit 6) g12 g13)) p14 
(oSetIf (wantF g11) (xLook (lkFieldAddr (nat_lit 0) g14)) p15 
(oSetIf (wantF g11) (xLook (lkLoad1 g15)) p16 
(oSetIf (wantF g11) (xLook (lkEq false .int g16 q156)) p17 
(oSet (xLook (lkPick g11 q30 g17)) p18 
(oSet (xMove g18) p19 
(oSetIf (wantT g19) (xMove g0) p20 
(oSetIf (wantT g19) (xMove g1) p21 
(oSetIf (wantT g19) (xLook (lkIxSl (nat_lit 6) g20 g21)) p22 
(oSetIf (wantT g19) (xLook (lkFieldAddr (nat_lit 4) g22)) p23 
(oSetIf (wantT g19) (xLook (lkLoad1 g23)) p24 
(oSetIf (wantT g19) (xMove g0) p25 
(oSetIf (wantT g19) (xLook (lkLen .sl g25)) p26 
(oSetIf (wantT g19) (xLook (lkBin .sub g26 q16)) p27 
(oSetIf (wantT g19) (xMove g1) p28 
(oSetIf (wantT g19) (xLook (lkBin .sub g27 g28)) p29 
(oSetIf (wantT g19) (xLook (lkBin .gtr g24 g29)) p30 
(oSet (xLook (lkPick g19 g30 q0)) p31 
(oSet (xMove g31) p4 
oEnd)))))))))))))))))))))))))))) kRet))⟩
noncomputable def k67 : KFun := ⟨[rTmp (nat_lit 2) g2], (kSeq (oSet (xMove q0) p2 
oEnd) (kSeq (oSet (xMove g0) p3 
(oSet (xLook (lkEq false .ptr g3 q2)) p4 
(oSet (xMove g4) p5 
(oSetIf (wantF g5) (xMove g0) p6 
(oSetIf (wantF g5) (xNil g6) p7 
(oSetIf (wantF g5) (xLook (lkFieldAddr (nat_lit 0) g7)) p8 
(oSetIf (wantF g5) (xLook (lkLoad1 g8)) p9 
(oSetIf (wantF g5) (xLook (lkUn .not g9)) p10 
(oSet (xLook (lkPick g5 q30 g10)) p11 
(oSet (xMove g11) p2 
oEnd)))))))))) kRet))⟩
def q166 : OpdF := kC (.int .i64 (.ofNat (nat_lit 60000)))
noncomputable def k68 : KFun := ⟨[rTmp (nat_lit 2) g2, rTmp (nat_lit 3) g3], (kSeq (oSet (xMove q10) p2 
(oSet (xMove q10) p3 
oEnd)) (kSeq (kSeq (oSet (xMove g0) p4 
oEnd) (kBlock (nat_lit 0) (kSeq (oSet (xLook (lkEq false .int g4 q7)) p6 
(oSet (xMove g6) p5 
oEnd)) (kCond g5 (kSeq (oSet (xMove q16) p2 
(oSet (xMove q84) p3 
oEnd)) kRet) (kSeq (oSet (xLook (lkEq false .int g4 q121)) p8 
(oSet (xMove g8) p7 
oEnd)) (kCond g7 (kSeq (oSet (xMove q74) p2 
(oSet (xMove q97) p3 
oEnd)) kRet) (kSeq (oSet (xLook (lkEq false .int g4 q74)) p10 
(oSet (xMove g10) p9 
oEnd)) (kCond g9 (kSeq (oSet (xMove q16) p2 
(oSet (xMove q166) p3 
oEnd)) kRet) kSkip)))))))) (kSeq (oSet (xMove q97) p2 
(oSet (xMove q84) p3 
oEnd)) kRet)))⟩
noncomputable def k69 : KFun := ⟨[], (kSeq (oSet xRecover p6 
oEnd) (kBlock (nat_lit 0) (kSeq (oSet (xLook (lkEq false .ifaceNil g6 q152)) p8 
oEnd) (kCond g8 (kSeq (oSet (xMove g6) p3 
oEnd) (oDo (xTurn (tnStore (nat_lit 1) g0 q30)) 
oEnd)) (kSeq (oSet (xLook (lkAssertT (nat_lit 140) (.agg ⟨[(.int .i64 (.ofNat (nat_lit 0))), (.int .i64 (.ofNat (nat_lit 0)))]⟩) true g6)) p9 
(oSet (xLook (lkExtract (nat_lit 1) g9)) p10 
(oSet (xLook (lkExtract (nat_lit 0) g9)) p11 
oEnd))) (kCond g10 (kSeq (oSet (xTurn (tnAlloc q40)) p4 
(oDo (xTurn (tnStore (nat_lit 2) g4 g11)) 
oEnd)) (kDraw 
(dLook (nat_lit 0) [] [] (lkLoad1 g2) p12 
(dLook (nat_lit 1) [] [] (lkLoad1 g2) p13 
(dLook (nat_lit 2) [] [] (lkLoad1 g1) p14 
(dLook (nat_lit 3) [] [] (lkFieldAddr (nat_lit 0) g4) p15 
(dLook (nat_lit 4) [] [] (lkLoadN (nat_lit 2) g15) p16 
(dTurn (nat_lit 5) [] [] false (xNil g12) p17 
(dLook (nat_lit 6) [] [] (lkFieldAddr (nat_lit 4) g17) p18 
(dTurn (nat_lit 7) [(nat_lit 4)] [] true (xTurn (tnStore (nat_lit 1) g18 g14)) noDst 
(dTurn (nat_lit 8) [] [(nat_lit 7)] false (xNil g13) p19 
(dLook (nat_lit 9) [] [(nat_lit 7)] (lkFieldAddr (nat_lit 0) g19) p20 
(dLook (nat_lit 10) [] [(nat_lit 7)] (lkFieldAddr (nat_lit 2) g20) p21 
(dTurn (nat_lit 11) [] [(nat_lit 7)] true (xTurn (tnStore (nat_lit 2) g21 g16)) noDst (dEnd [(nat_lit 12), (nat_lit 13), (nat_lit 14), (nat_lit 15), (nat_lit 16), (nat_lit 17), (nat_lit 18), (nat_lit 19), (nat_lit 20), (nat_lit 21)]))))))))))))))) (kSeq (oSet (xMove g6) p5 
oEnd) (oSet (xMove g5) p7 
(oDo (xPanic g7) 
oEnd)))))))))⟩
def q167 : OpdF := kC (.func (.func (nat_lit 95)) ⟨[]⟩ ⟨[]⟩)
def q168 : OpdF := kC (.func (.func (nat_lit 96)) ⟨[]⟩ ⟨[]⟩)
noncomputable def k71 : KFun := ⟨[rCellN (nat_lit 4) g4 (nat_lit 5)], (kSeq (oSet (xTurn (tnBox g1)) p3 
(oSet (xTurn (tnAlloc q15)) p4 
oEnd)) (kSeq (oSet (xLook (lkFieldAddr (nat_lit 1) g3)) p5 
(oSet (xLook (lkLoad1 g5)) p6 
(oSet (xCall q75 [g6]) p7 
(oSet (xLook (lkUn .not g7)) p8 
(oSet (xCall q118 [g8, q18]) p9 
oEnd))))) (kSeq (oSet (xMove g0) p10 
(oSet (xLook (lkFieldAddr (nat_lit 1) g3)) p11 
(oSet (xLook (lkLoad1 g11)) p12 
(oSet (xCall q167 [g10, g12]) p13 
(oSet (xCall q118 [g13, q22]) p14 
oEnd))))) (kSeq (oSet (xMove g0) p15 
(oSet (xLook (lkFieldAddr (nat_lit 1) g3)) p16 
(oSet (xLook (lkLoad1 g16)) p17 
(oSet (xCall q168 [g15, g17, q12]) p18 
oEnd)))) (kSeq (oSet (xLook (lkLoadN (nat_lit 5) g4)) p19 
(oDo (xTurn (tnStore (nat_lit 5) g4 g19)) 
oEnd)) kRet)))))⟩
def q169 : OpdF := kC (.func (.func (nat_lit 97)) ⟨[]⟩ ⟨[]⟩)
def q170 : OpdF := kC (.func (.func (nat_lit 98)) ⟨[]⟩ ⟨[]⟩)
def q171 : OpdF := kC (.func (.func (nat_lit 99)) ⟨[]⟩ ⟨[]⟩)
noncomputable def k72 : KFun := ⟨[rCellN (nat_lit 4) g4 (nat_lit 5)], (kSeq (oSet (xTurn (tnBox g1)) p3 
(oSet (xTurn (tnAlloc q15)) p4 
oEnd)) (kSeq (oSet (xMove q12) p5 
oEnd) (kSeq (kSeq (oSet (xLook (lkFieldAddr (nat_lit 7) g3)) p9 
(oSet (xLook (lkLoad1 g9)) p10 
(oSet (xLook (lkLen .sl g10)) p11 
(oSet (xMove q10) p12 
oEnd)))) (kBlock (nat_lit 0) (kLoop (kSeq (oSet (xLook (lkBin .lss g12 g11)) p13 
oEnd) (kSeq (kCond g13 kSkip (kExit (nat_lit 0))) (kSeq (kBlock (nat_lit 1) (kSeq (oSet (xLook (lkIxSl (nat_lit 1) g10 g12)) p14 
(oSet (xLook (lkLoad1 g14)) p15 
(oSet (xMove g15) p7 
oEnd))) (oSet (xMove g5) p16 
(oSet (xMove g7) p17 
(oSet (xCall q169 [g17]) p18 
(oSet (xTurn (tnBuildSlice q77 [((nat_lit 0), (nat_lit 1), g18)] (nat_lit 1))) p19 
(oSet (xTurn (tnAppend (nat_lit 1) g16 g19)) p20 
(oSet (xMove g20) p5 
oEnd)))))))) (oSet (xLook (lkBin .add g12 q16)) p21 
(oSet (xMove g21) p12 
oEnd)))))))) (kSeq (oSet (xMove g0) p22 
(oSet (xLook (lkFieldAddr (nat_lit 1) g3)) p23 
(oSet (xLook (lkLoad1 g23)) p24 
(oSet (xCall q170 [g22, g24]) p25 
(oSet (xMove g25) p8 
oEnd))))) (kSeq (oSet (xMove g8) p26 
(oSet (xLook (lkLen .sl g26)) p27 
(oSet (xMove g5) p28 
(oSet (xLook (lkLen .sl g28)) p29 
(oSet (xLook (lkBin .add g27 g29)) p30 
(oSet (xLook (lkBin .gtr g30 q76)) p31 
(oSet (xCall q118 [g31, q7]) p32 
oEnd))))))) (kSeq (kDraw 
(dLook (nat_lit 0) [] [] (lkMove g0) p33 
(dLook (nat_lit 1) [] [] (lkFieldAddr (nat_lit 1) g3) p34 
(dLook (nat_lit 2) [] [] (lkLoad1 g34) p35 
(dLook (nat_lit 3) [] [] (lkMove g8) p36 
(dLook (nat_lit 4) [] [] (lkMove g5) p37 
(dTurn (nat_lit 5) [] [] false (xTurn (tnBuildSlice q52 [((nat_lit 0), (nat_lit 1), g36), ((nat_lit 1), (nat_lit 1), g37)] (nat_lit 2))) p38 
(dTurn (nat_lit 6) [(nat_lit 2)] [] true (xCall q171 [g38]) p39 
(dTurn (nat_lit 7) [] [(nat_lit 6)] true (xCall q168 [g33, g35, g39]) p40 (dEnd [(nat_lit 33), (nat_lit 34), (nat_lit 35), (nat_lit 36), (nat_lit 37), (nat_lit 38), (nat_lit 39), (nat_lit 40)])))))))))) (kSeq (oSet (xLook (lkLoadN (nat_lit 5) g4)) p41 
(oDo (xTurn (tnStore (nat_lit 5) g4 g41)) 
oEnd)) kRet)))))))⟩
def q172 : List Value := [(.bool false), (.int .i64 (.ofNat (nat_lit 0))), (.slice none (nat_lit 0) (nat_lit 0))]
def q173 : OpdF := kC (.func (.func (nat_lit 100)) ⟨[]⟩ ⟨[]⟩)
def q174 : OpdF := kC (.func (.func (nat_lit 101)) ⟨[]⟩ ⟨[]⟩)
def q175 : OpdF := kC (.func (.func (nat_lit 102)) ⟨[]⟩ ⟨[]⟩)
def q176 : OpdF := kC (.func (.func (nat_lit 103)) ⟨[]⟩ ⟨[]⟩)
def q177 : OpdF := kC (.func (.func (nat_lit 104)) ⟨[]⟩ ⟨[]⟩)
noncomputable def k73 : KFun := ⟨[rCellN (nat_lit 4) g4 (nat_lit 5)], (kSeq (oSet (xTurn (tnBox g1)) p3 
(oSet (xTurn (tnAlloc q15)) p4 
oEnd)) (kSeq (kDraw 
(dLook (nat_lit 0) [] [] (lkFieldAddr (nat_lit 0) g3) p9 
(dLook (nat_lit 1) [] [] (lkLoad1 g9) p10 
(dLook (nat_lit 2) [] [] (lkEq false .int g10 q7) p11 
(dLook (nat_lit 3) [] [] (lkMove g0) p12 
(dLook (nat_lit 4) [] [] (lkFieldAddr (nat_lit 1) g3) p13 
(dLook (nat_lit 5) [] [] (lkLoad1 g13) p14 
(dLook (nat_lit 6) [] [] (lkFieldAddr (nat_lit 5) g3) p15 
(dLook (nat_lit 7) [] [] (lkLoad1 g15) p16 
(dTurn (nat_lit 8) [(nat_lit 1)] [] true (xCall q173 [g12, g14, g16]) p17 
(dLook (nat_lit 9) [] [(nat_lit 8)] (lkBuild q172 [((nat_lit 0), (nat_lit 1), g11), ((nat_lit 1), (nat_lit 1), g17)]) p18 
(dTurn (nat_lit 10) [] [] false (xTurn (tnAlloc q172)) p5 
(dTurn (nat_lit 11) [] [(nat_lit 8)] true (xTurn (tnStore (nat_lit 3) g5 g18)) noDst (dEnd [(nat_lit 9), (nat_lit 10), (nat_lit 11), (nat_lit 12), (nat_lit 13), (nat_lit 14), (nat_lit 15), (nat_lit 16), (nat_lit 17), (nat_lit 18), (nat_lit 5)])))))))))))))) (kSeq (kSeq (oSet (xLook (lkFieldAddr (nat_lit 0) g5)) p19 
(oSet (xLook (lkLoad1 g19)) p20 
oEnd)) (kCond g20 (oSet (xLook (lkFieldAddr (nat_lit 7) g3)) p21 
(oSet (xLook (lkLoad1 g21)) p22 
(oSet (xLook (lkIxSl (nat_lit 1) g22 q10)) p23 
(oSet (xLook (lkLoad1 g23)) p24 
(oSet (xCall q169 [g24]) p25 
(oSet (xLook (lkFieldAddr (nat_lit 2) g5)) p26 
(oDo (xTurn (tnStore (nat_lit 1) g26 g25)) 
oEnd))))))) kSkip)) (kSeq (oSet (xMove g0) p27 
(oSet (xLook (lkFieldAddr (nat_lit 1) g3)) p28 
(oSet (xLook (lkLoad1 g28)) p29 
(oSet (xCall q170 [g27, g29]) p30 
(oSet (xMove g30) p6 
oEnd))))) (kSeq (kDraw 
(dLook (nat_lit 0) [] [] (lkMove g6) p32 
(dLook (nat_lit 1) [] [] (lkMove g6) p33 
(dTurn (nat_lit 2) [] [] true (xCall q175 [g33]) p34 
(dLook (nat_lit 3) [(nat_lit 2)] [] (lkLoadN (nat_lit 3) g5) p35 
(dTurn (nat_lit 4) [] [(nat_lit 2)] true (xCall q174 [g32, g34, g35]) p36 
(dLook (nat_lit 5) [] [(nat_lit 2), (nat_lit 4)] (lkMove g36) p31 
(dLook (nat_lit 6) [] [(nat_lit 2), (nat_lit 4)] (lkExtract (nat_lit 0) g31) p37 
(dLook (nat_lit 7) [] [(nat_lit 2), (nat_lit 4)] (lkExtract (nat_lit 1) g31) p38 
(dTurn (nat_lit 8) [] [] false (xTurn (tnAlloc q52)) p7 
(dTurn (nat_lit 9) [] [(nat_lit 2), (nat_lit 4)] true (xTurn (tnStore (nat_lit 2) g7 g37)) noDst 
(dLook (nat_lit 10) [] [(nat_lit 2), (nat_lit 4), (nat_lit 9)] (lkMove g38) p8 (dEnd [(nat_lit 32), (nat_lit 33), (nat_lit 34), (nat_lit 35), (nat_lit 36), (nat_lit 31), (nat_lit 37), (nat_lit 38), (nat_lit 7), (nat_lit 8)]))))))))))))) (kSeq (oSet (xMove g8) p39 
(oSet (xCall q176 [g39]) p40 
oEnd)) (kSeq (oSet (xMove g6) p42 
(oSet (xLook (lkLoadN (nat_lit 3) g5)) p43 
(oSet (xCall q177 [g42, g43]) p44 
(oSet (xMove g44) p41 
(oSet (xLook (lkExtract (nat_lit 0) g41)) p45 
(oSet (xLook (lkExtract (nat_lit 1) g41)) p46 
(oSet (xMove g45) p6 
(oSet (xMove g46) p8 
oEnd)))))))) (kSeq (oSet (xMove g8) p47 
(oSet (xCall q176 [g47]) p48 
oEnd)) (kSeq (oSet (xMove g0) p49 
(oSet (xLook (lkFieldAddr (nat_lit 1) g3)) p50 
(oSet (xLook (lkLoad1 g50)) p51 
(oSet (xMove g6) p52 
(oSet (xCall q168 [g49, g51, g52]) p53 
oEnd))))) (kSeq (oSet (xLook (lkFieldAddr (nat_lit 1) g7)) p54 
(oSet (xLook (lkLoad1 g54)) p55 
(oSet (xLook (lkBuild q15 [((nat_lit 1), (nat_lit 1), g55)])) p56 
(oDo (xTurn (tnStore (nat_lit 5) g4 g56)) 
oEnd)))) kRet))))))))))⟩
def q178 : OpdF := kC (.func (.func (nat_lit 105)) ⟨[]⟩ ⟨[]⟩)
noncomputable def k74 : KFun := ⟨[rCellN (nat_lit 4) g4 (nat_lit 5)], (kSeq (oSet (xTurn (tnBox g1)) p3 
(oSet (xTurn (tnAlloc q15)) p4 
oEnd)) (kSeq (oSet (xMove g0) p7 
(oSet (xLook (lkFieldAddr (nat_lit 1) g3)) p8 
(oSet (xLook (lkLoad1 g8)) p9 
(oSet (xCall q170 [g7, g9]) p10 
(oSet (xMove g10) p5 
oEnd))))) (kSeq (oSet (xMove g0) p11 
(oSet (xLook (lkFieldAddr (nat_lit 1) g3)) p12 
(oSet (xLook (lkLoad1 g12)) p13 
(oSet (xLook (lkFieldAddr (nat_lit 5) g3)) p14 
(oSet (xLook (lkLoad1 g14)) p15 
(oSet (xCall q173 [g11, g13, g15]) p16 
(oSet (xMove g16) p6 
oEnd))))))) (kSeq (oSet (xMove g6) p17 
(oSet (xMove g5) p18 
(oSet (xLook (lkLen .sl g18)) p19 
(oSet (xLook (lkBin .gtr g17 g19)) p20 
(oSet (xCall q118 [g20, q19]) p21 
oEnd))))) (kSeq (oSet (xMove g0) p22 
(oSet (xLook (lkFieldAddr (nat_lit 2) g3)) p23 
(oSet (xLook (lkLoad1 g23)) p24 
(oSet (xCall q167 [g22, g24]) p25 
(oSet (xCall q118 [g25, q22]) p26 
oEnd))))) (kSeq (kDraw 
(dLook (nat_lit 0) [] [] (lkMove g0) p27 
(dLook (nat_lit 1) [] [] (lkFieldAddr (nat_lit 2) g3) p28 
(dLook (nat_lit 2) [] [] (lkLoad1 g28) p29 
(dLook (nat_lit 3) [] [] (lkMove g5) p30 
(dLook (nat_lit 4) [] [] (lkMove g6) p31 
(dLook (nat_lit 5) [] [] (lkSliceSl (nat_lit 1) g30 none (some g31) none) p32 
(dTurn (nat_lit 6) [(nat_lit 2)] [] true (xCall q178 [g32]) p33 
(dTurn (nat_lit 7) [] [(nat_lit 6)] true (xCall q168 [g27, g29, g33]) p34 (dEnd [(nat_lit 27), (nat_lit 28), (nat_lit 29), (nat_lit 30), (nat_lit 31), (nat_lit 32), (nat_lit 33), (nat_lit 34)])))))))))) (kSeq (oSet (xLook (lkLoadN (nat_lit 5) g4)) p35 
(oDo (xTurn (tnStore (nat_lit 5) g4 g35)) 
oEnd)) kRet)))))))⟩
def q179 : OpdF := kC (.func (.func (nat_lit 106)) ⟨[]⟩ ⟨[]⟩)
noncomputable def k75 : KFun := ⟨[rCellN (nat_lit 4) g4 (nat_lit 5)], (kSeq (oSet (xTurn (tnBox g1)) p3 
(oSet (xTurn (tnAlloc q15)) p4 
oEnd)) (kSeq (oSet (xMove g0) p5 
(oSet (xLook (lkFieldAddr (nat_lit 1) g3)) p6 
(oSet (xLook (lkLoad1 g6)) p7 
(oSet (xCall q170 [g5, g7]) p8 
oEnd)))) (kSeq (kDraw 
(dLook (nat_lit 0) [] [] (lkMove g0) p9 
(dLook (nat_lit 1) [] [] (lkMove g0) p10 
(dTurn (nat_lit 2) [] [] false (xNil g10) p11 
(dLook (nat_lit 3) [] [] (lkFieldAddr (nat_lit 0) g11) p12 
(dLook (nat_lit 4) [] [] (lkLoad1 g12) p13 
(dLook (nat_lit 5) [] [] (lkFieldAddr (nat_lit 1) g3) p14 
(dLook (nat_lit 6) [] [] (lkLoad1 g14) p15 
(dTurn (nat_lit 7) [] [] true (xCall q179 [g13, g15]) p16 
(dTurn (nat_lit 8) [] [(nat_lit 7)] false (xNil g9) p17 
(dLook (nat_lit 9) [] [(nat_lit 7)] (lkFieldAddr (nat_lit 0) g17) p18 
(dTurn (nat_lit 10) [] [(nat_lit 7)] true (xTurn (tnStore (nat_lit 1) g18 g16)) noDst (dEnd [(nat_lit 9), (nat_lit 10), (nat_lit 11), (nat_lit 12), (nat_lit 13), (nat_lit 14), (nat_lit 15), (nat_lit 16), (nat_lit 17), (nat_lit 18)]))))))))))))) (kSeq (oSet (xLook (lkLoadN (nat_lit 5) g4)) p19 
(oDo (xTurn (tnStore (nat_lit 5) g4 g19)) 
oEnd)) kRet))))⟩
def q180 : OpdF := kC (.func (.func (nat_lit 107)) ⟨[]⟩ ⟨[]⟩)
noncomputable def k77 : KFun := ⟨[rCellN (nat_lit 4) g4 (nat_lit 5)], (kSeq (oSet (xTurn (tnBox g1)) p3 
(oSet (xTurn (tnAlloc q15)) p4 
oEnd)) (kSeq (kSeq (oSet (xMove g0) p7 
(oSet (xNil g7) p8 
(oSet (xLook (lkFieldAddr (nat_lit 0) g8)) p9 
(oSet (xLook (lkLoad1 g9)) p10 
(oSet (xLook (lkLen .sl g10)) p11 
(oSet (xMove q10) p12 
oEnd)))))) (kBlock (nat_lit 0) (kLoop (kSeq (oSet (xLook (lkBin .lss g12 g11)) p13 
oEnd) (kSeq (kCond g13 kSkip (kExit (nat_lit 0))) (kSeq (kBlock (nat_lit 1) (kSeq (oSet (xLook (lkIxSl (nat_lit 2) g10 g12)) p14 
(oSet (xLook (lkLoadN (nat_lit 2) g14)) p15 
(oSet (xTurn (tnAlloc q24)) p6 
(oDo (xTurn (tnStore (nat_lit 2) g6 g15)) 
oEnd)))) (kDraw 
(dLook (nat_lit 0) [] [] (lkFieldAddr (nat_lit 2) g4) p16 
(dLook (nat_lit 1) [] [] (lkLoad1 g16) p17 
(dLook (nat_lit 2) [] [] (lkFieldAddr (nat_lit 0) g6) p18 
(dLook (nat_lit 3) [] [] (lkLoad1 g18) p19 
(dTurn (nat_lit 4) [] [] false (xTurn (tnBuildSlice q5 [((nat_lit 0), (nat_lit 1), g19)] (nat_lit 1))) p20 
(dTurn (nat_lit 5) [] [] true (xTurn (tnAppend (nat_lit 1) g17 g20)) p21 
(dLook (nat_lit 6) [] [] (lkFieldAddr (nat_lit 1) g4) p22 
(dLook (nat_lit 7) [(nat_lit 5)] [] (lkLoad1 g22) p23 
(dLook (nat_lit 8) [] [] (lkFieldAddr (nat_lit 1) g6) p24 
(dLook (nat_lit 9) [(nat_lit 5)] [] (lkLoad1 g24) p25 
(dLook (nat_lit 10) [(nat_lit 5)] [] (lkLen .sl g25) p26 
(dTurn (nat_lit 11) [] [] false (xTurn (tnBuildSlice q9 [((nat_lit 0), (nat_lit 1), g26)] (nat_lit 1))) p27 
(dTurn (nat_lit 12) [] [(nat_lit 5)] true (xTurn (tnAppend (nat_lit 1) g23 g27)) p28 
(dLook (nat_lit 13) [] [(nat_lit 5)] (lkFieldAddr (nat_lit 2) g4) p29 
(dTurn (nat_lit 14) [] [(nat_lit 5), (nat_lit 12)] true (xTurn (tnStore (nat_lit 1) g29 g21)) noDst 
(dLook (nat_lit 15) [] [(nat_lit 5), (nat_lit 12), (nat_lit 14)] (lkFieldAddr (nat_lit 1) g4) p30 
(dTurn (nat_lit 16) [] [(nat_lit 5), (nat_lit 12), (nat_lit 14)] true (xTurn (tnStore (nat_lit 1) g30 g28)) noDst (dEnd [(nat_lit 16), (nat_lit 17), (nat_lit 18), (nat_lit 19), (nat_lit 20), (nat_lit 21), (nat_lit 22), (nat_lit 23), (nat_lit 24), (nat_lit 25), (nat_lit 26), (nat_lit 27), (nat_lit 28), (nat_lit 29), (nat_lit 30)]))))))))))))))))))))) (oSet (xLook (lkBin .add g12 q16)) p31 
(oSet (xMove g31) p12 
oEnd)))))))) (kSeq (oSet (xLook (lkLoadN (nat_lit 5) g4)) p32 
(oDo (xTurn (tnStore (nat_lit 5) g4 g32)) 
oEnd)) kRet)))⟩
def q181 : OpdF := kC (.func (.func (nat_lit 108)) ⟨[]⟩ ⟨[]⟩)
def q182 : OpdF := kC (.func (.func (nat_lit 109)) ⟨[]⟩ ⟨[]⟩)
noncomputable def k78 : KFun := ⟨[rCellN (nat_lit 4) g4 (nat_lit 5)], (kSeq (oSet (xTurn (tnBox g1)) p3 
(oSet (xTurn (tnAlloc q15)) p4 
oEnd)) (kSeq (kDraw 
(dLook (nat_lit 0) [] [] (lkMove g0) p5 
(dLook (nat_lit 1) [] [] (lkFieldAddr (nat_lit 1) g3) p6 
(dLook (nat_lit 2) [] [] (lkLoad1 g6) p7 
(dLook (nat_lit 3) [] [] (lkFieldAddr (nat_lit 5) g3) p8 
(dLook (nat_lit 4) [] [] (lkLoad1 g8) p9 
(dTurn (nat_lit 5) [] [] true (xCall q182 [g5, g7, g9]) p10 
(dLook (nat_lit 6) [] [] (lkFieldAddr (nat_lit 3) g3) p11 
(dLook (nat_lit 7) [(nat_lit 5)] [] (lkLoad1 g11) p12 
(dTurn (nat_lit 8) [] [(nat_lit 5)] true (xCall q181 [g10, g12]) p13 
(dLook (nat_lit 9) [] [(nat_lit 5), (nat_lit 8)] (lkBuild q15 [((nat_lit 2), (nat_lit 1), g13)]) p14 
(dTurn (nat_lit 10) [] [(nat_lit 5), (nat_lit 8)] true (xTurn (tnStore (nat_lit 5) g4 g14)) noDst (dEnd [(nat_lit 5), (nat_lit 6), (nat_lit 7), (nat_lit 8), (nat_lit 9), (nat_lit 10), (nat_lit 11), (nat_lit 12), (nat_lit 13), (nat_lit 14)]))))))))))))) kRet))⟩
def q184 : OpdF := kC (.func (.func (nat_lit 111)) ⟨[]⟩ ⟨[]⟩)
def q185 : OpdF := kC (.func (.func (nat_lit 112)) ⟨[]⟩ ⟨[]⟩)
noncomputable def k83 : KFun := ⟨[rCellN (nat_lit 4) g4 (nat_lit 5)], (kSeq (oSet (xTurn (tnBox g1)) p3 
(oSet (xTurn (tnAlloc q15)) p4 
oEnd)) (kSeq (oSet (xLook (lkLoadN (nat_lit 5) g4)) p5 
(oDo (xTurn (tnStore (nat_lit 5) g4 g5)) 
oEnd)) kRet))⟩
def q189 : OpdF := kC (.func (.func (nat_lit 116)) ⟨[]⟩ ⟨[]⟩)
def q194 : OpdF := kC (.func (.func (nat_lit 121)) ⟨[]⟩ ⟨[]⟩)
def q195 : OpdF := kC (.func (.func (nat_lit 122)) ⟨[]⟩ ⟨[]⟩)
noncomputable def k87 : KFun := ⟨[rCellN (nat_lit 4) g4 (nat_lit 5)], (kSeq (oSet (xTurn (tnBox g1)) p3 
(oSet (xTurn (tnAlloc q15)) p4 
oEnd)) (kSeq (oSet (xMove g0) p8 
(oSet (xLook (lkFieldAddr (nat_lit 1) g3)) p9 
(oSet (xLook (lkLoad1 g9)) p10 
(oSet (xCall q170 [g8, g10]) p11 
(oSet (xCall q175 [g11]) p12 
(oSet (xMove g12) p5 
oEnd)))))) (kSeq (oSet (xMove g5) p14 
(oSet (xMove g0) p15 
(oSet (xLook (lkFieldAddr (nat_lit 1) g3)) p16 
(oSet (xLook (lkLoad1 g16)) p17 
(oSet (xLook (lkFieldAddr (nat_lit 5) g3)) p18 
(oSet (xLook (lkLoad1 g18)) p19 
(oSet (xCall q173 [g15, g17, g19]) p20 
(oSet (xMove g5) p21 
(oSet (xLook (lkLen .sl g21)) p22 
(oSet (xCall q194 [g20, g22]) p23 
(oSet (xLook (lkIxSl (nat_lit 5) g14 g23)) p24 
(oSet (xLook (lkLoadN (nat_lit 5) g24)) p25 
(oSet (xCall q195 [g25]) p26 
(oSet (xMove g26) p13 
(oSet (xLook (lkExtract (nat_lit 0) g13)) p27 
(oSet (xLook (lkExtract (nat_lit 1) g13)) p28 
(oSet (xMove g27) p6 
(oSet (xMove g28) p7 
oEnd)))))))))))))))))) (kSeq (oSet (xMove g7) p29 
(oSet (xCall q176 [g29]) p30 
oEnd)) (kSeq (oSet (xMove g6) p31 
(oSet (xLook (lkBytesTo g31)) p32 
(oSet (xTurn (tnBuildSlice q5 [((nat_lit 0), (nat_lit 1), g32)] (nat_lit 1))) p33 
(oSet (xLook (lkBuild q15 [((nat_lit 2), (nat_lit 1), g33)])) p34 
(oDo (xTurn (tnStore (nat_lit 5) g4 g34)) 
oEnd))))) kRet)))))⟩
noncomputable def k90 : KFun := ⟨[rCellN (nat_lit 2) g2 (nat_lit 256), rTmp (nat_lit 3) g3], (kSeq (oSet (xTurn (tnAlloc q161)) p2 
(oSet (xMove q0) p3 
oEnd)) (kSeq (kSeq (oSet (xMove q10) p4 
oEnd) (kBlock (nat_lit 0) (kLoop (kSeq (kSeq (oSet (xMove g4) p6 
(oSet (xMove g0) p7 
(oSet (xLook (lkLen .str g7)) p8 
(oSet (xLook (lkBin .lss g6 g8)) p9 
oEnd)))) (kCond g9 kSkip (kExit (nat_lit 0)))) (kSeq (kBlock (nat_lit 1) (kSeq (oSet (xMove g0) p12 
(oSet (xMove g4) p13 
(oSet (xLook (lkIxStr g12 g13)) p14 
(oSet (xMove g14) p5 
oEnd)))) (kSeq (kSeq (oSet (xMove g5) p15 
(oSet (xLook (lkBin .geq g15 q150)) p16 
oEnd)) (kCond g16 (kSeq (oSet (xLook (lkLoadN (nat_lit 256) g2)) p17 
(oDo (xTurn (tnStore (nat_lit 256) g2 g17)) 
(oSet (xMove q0) p3 
oEnd))) kRet) kSkip)) (oSet (xMove g5) p18 
(oSet (xLook (lkIxArr (nat_lit 256) (nat_lit 1) g2 g18)) p19 
(oDo (xTurn (tnStore (nat_lit 1) g19 q30)) 
oEnd)))))) (oSet (xMove g4) p10 
(oSet (xLook (lkBin .add g10 q16)) p11 
(oSet (xMove g11) p4 
oEnd)))))))) (kSeq (oSet (xLook (lkLoadN (nat_lit 256) g2)) p20 
(oDo (xTurn (tnStore (nat_lit 256) g2 g20)) 
(oSet (xMove q30) p3 
oEnd))) kRet)))⟩
def q196 : OpdF := kC (.func (.func (nat_lit 123)) ⟨[]⟩ ⟨[]⟩)
noncomputable def k91 : KFun := ⟨[rTmp (nat_lit 4) g4], (kSeq (oSet (xMove q33) p4 
oEnd) (kSeq (kBlock (nat_lit 0) (kLoop (kSeq (kSeq (oSet (xMove g0) p5 
(oSet (xLook (lkLen .str g5)) p6 
(oSet (xLook (lkBin .gtr g6 q10)) p7 
oEnd))) (kCond g7 kSkip (kExit (nat_lit 0)))) (kBlock (nat_lit 1) (kSeq (kSeq (oSet (xMove g1) p8 
(oSet (xMove g0) p9 
(oSet (xLook (lkIxStr g9 q10)) p10 
(oSet (xCall q196 [g8, g10]) p11 
(oSet (xLook (lkUn .not g11)) p12 
oEnd))))) (kCond g12 (kExit (nat_lit 0)) kSkip)) (oSet (xMove g0) p13 
(oSet (xLook (lkSliceStr g13 (some q16) none)) p14 
(oSet (xMove g14) p0 
oEnd)))))))) (kSeq (oSet (xMove g0) p15 
(oSet (xMove g15) p4 
oEnd)) kRet)))⟩
noncomputable def k92 : KFun := ⟨[rTmp (nat_lit 4) g4], (kSeq (oSet (xMove q33) p4 
oEnd) (kSeq (kBlock (nat_lit 0) (kLoop (kSeq (kSeq (oSet (xMove g0) p5 
(oSet (xLook (lkLen .str g5)) p6 
(oSet (xLook (lkBin .gtr g6 q10)) p7 
oEnd))) (kCond g7 kSkip (kExit (nat_lit 0)))) (kBlock (nat_lit 1) (kSeq (kSeq (oSet (xMove g1) p8 
(oSet (xMove g0) p9 
(oSet (xMove g0) p10 
(oSet (xLook (lkLen .str g10)) p11 
(oSet (xLook (lkBin .sub g11 q16)) p12 
(oSet (xLook (lkIxStr g9 g12)) p13 
(oSet (xCall q196 [g8, g13]) p14 
(oSet (xLook (lkUn .not g14)) p15 
oEnd)))))))) (kCond g15 (kExit (nat_lit 0)) kSkip)) (oSet (xMove g0) p16 
(oSet (xMove g0) p17 
(oSet (xLook (lkLen .str g17)) p18 
(oSet (xLook (lkBin .sub g18 q16)) p19 
(oSet (xLook (lkSliceStr g16 none (some g19))) p20 
(oSet (xMove g20) p0 
oEnd))))))))))) (kSeq (oSet (xMove g0) p21 
(oSet (xMove g21) p4 
oEnd)) kRet)))⟩
def q201 : OpdF := kC (.func (.func (nat_lit 127)) ⟨[]⟩ ⟨[]⟩)
noncomputable def k95 : KFun := ⟨[rTmp (nat_lit 4) g4], (kSeq (oSet (xMove q0) p4 
oEnd) (kSeq (oSet (xMove g0) p8 
(oSet (xNil g8) p9 
(oSet (xLook (lkFieldAddr (nat_lit 0) g9)) p10 
(oSet (xLook (lkLoad1 g10)) p11 
(oSet (xMove g1) p12 
(oSet (xCall q201 [g11, g12]) p13 
(oSet (xMove g13) p7 
(oSet (xLook (lkExtract (nat_lit 0) g7)) p14 
(oSet (xLook (lkExtract (nat_lit 1) g7)) p15 
(oSet (xMove g14) p5 
(oSet (xMove g15) p6 
oEnd))))))))))) (kSeq (oSet (xMove g6) p16 
(oSet (xMove g16) p4 
oEnd)) kRet)))⟩
noncomputable def k96 : KFun := ⟨[], (kSeq (oSet (xMove g1) p6 
(oSet (xCall q75 [g6]) p7 
(oSet (xLook (lkUn .not g7)) p8 
(oSet (xCall q118 [g8, q18]) p9 
oEnd)))) (kSeq (oSet (xMove g0) p10 
(oSet (xMove g1) p11 
(oSet (xCall q167 [g10, g11]) p12 
(oSet (xLook (lkUn .not g12)) p13 
(oSet (xMove g13) p14 
(oSetIf (wantT g14) (xMove g0) p15 
(oSetIf (wantT g14) (xNil g15) p16 
(oSetIf (wantT g14) (xLook (lkFieldAddr (nat_lit 0) g16)) p17 
(oSetIf (wantT g14) (xLook (lkLoad1 g17)) p18 
(oSetIf (wantT g14) (xLook (lkLen .sl g18)) p19 
(oSetIf (wantT g14) (xLook (lkBin .geq g19 q74)) p20 
(oSet (xLook (lkPick g14 g20 q0)) p21 
(oSet (xCall q118 [g21, q45]) p22 
oEnd))))))))))))) (oSet (xMove g0) p23 
(oSet (xMove g0) p24 
(oSet (xNil g24) p25 
(oSet (xLook (lkFieldAddr (nat_lit 0) g25)) p26 
(oSet (xLook (lkLoad1 g26)) p27 
(oSet (xMove g1) p28 
(oSet (xMove g2) p29 
(oSet (xLook (lkBuild q24 [((nat_lit 0), (nat_lit 1), g28), ((nat_lit 1), (nat_lit 1), g29)])) p30 
(oSet (xCall q180 [g27, g30]) p31 
(oSet (xNil g23) p32 
(oSet (xLook (lkFieldAddr (nat_lit 0) g32)) p33 
(oDo (xTurn (tnStore (nat_lit 1) g33 g31)) 
oEnd))))))))))))))⟩
def q202 : OpdF := kC (.func (.func (nat_lit 128)) ⟨[]⟩ ⟨[]⟩)
noncomputable def k97 : KFun := ⟨[rTmp (nat_lit 2) g2], (kSeq (oSet (xMove q12) p2 
oEnd) (kSeq (oSet (xMove g0) p6 
(oSet (xTurn (tnToBytes g6)) p7 
(oSet (xCall q202 [g7]) p8 
(oSet (xMove g8) p5 
(oSet (xLook (lkExtract (nat_lit 0) g5)) p9 
(oSet (xLook (lkExtract (nat_lit 1) g5)) p10 
(oSet (xTurn (tnAlloc q40)) p4 
(oSet (xMove g9) p3 
(oDo (xTurn (tnStore (nat_lit 2) g4 g10)) 
oEnd))))))))) (kSeq (oSet (xLook (lkFieldAddr (nat_lit 0) g4)) p11 
(oSet (xLook (lkLoad1 g11)) p12 
(oSet (xLook (lkEq true .int g12 q10)) p13 
(oSet (xCall q118 [g13, q18]) p14 
oEnd)))) (kSeq (oSet (xMove g3) p15 
(oSet (xMove g15) p2 
oEnd)) kRet))))⟩
noncomputable def k98 : KFun := ⟨[rTmp (nat_lit 4) g4], (kSeq (oSet (xMove q12) p4 
oEnd) (kSeq (oSet (xMove g0) p5 
(oSet (xMove g1) p6 
(oSet (xTurn (tnBuildSlice q5 [((nat_lit 0), (nat_lit 1), g6)] (nat_lit 1))) p7 
(oSet (xCall q185 [g5, g7]) p8 
(oSet (xLook (lkIxSl (nat_lit 1) g8 q10)) p9 
(oSet (xLook (lkLoad1 g9)) p10 
(oSet (xMove g10) p4 
oEnd))))))) kRet))⟩
def q203 : OpdF := kC (.string ⟨⟨[108, 101, 110, 32, 111, 117, 116, 32, 111, 102, 32, 114, 97, 110, 103, 101]⟩⟩)
def q204 : OpdF := kC (.func (.func (nat_lit 129)) ⟨[]⟩ ⟨[]⟩)
noncomputable def k99 : KFun := ⟨[rTmp (nat_lit 2) g2], (kSeq (oSet (xMove q12) p2 
oEnd) (kSeq (oSet (xMove q10) p3 
oEnd) (kSeq (kSeq (oSet (xMove g0) p9 
(oSet (xLook (lkLen .sl g9)) p10 
(oSet (xMove q10) p11 
oEnd))) (kBlock (nat_lit 0) (kLoop (kSeq (oSet (xLook (lkBin .lss g11 g10)) p12 
oEnd) (kSeq (kCond g12 kSkip (kExit (nat_lit 0))) (kSeq (kBlock (nat_lit 1) (kSeq (oSet (xLook (lkIxSl (nat_lit 1) g9 g11)) p13 
(oSet (xLook (lkLoad1 g13)) p14 
(oSet (xMove g14) p5 
oEnd))) (kSeq (oSet (xMove g3) p15 
(oSet (xMove g5) p16 
(oSet (xLook (lkLen .sl g16)) p17 
(oSet (xLook (lkBin .add g15 g17)) p18 
(oSet (xMove g18) p3 
oEnd))))) (kSeq (oSet (xMove g3) p19 
(oSet (xLook (lkBin .lss g19 q10)) p20 
oEnd)) (kCond g20 (oSet (xLook (lkMkIface (nat_lit 9) q203)) p21 
(oDo (xPanic g21) 
oEnd)) kSkip))))) (oSet (xLook (lkBin .add g11 q16)) p22 
(oSet (xMove g22) p11 
oEnd)))))))) (kSeq (oSet (xMove g3) p23 
(oSet (xCall q204 [q12, g23]) p24 
(oSet (xMove g24) p6 
oEnd))) (kSeq (kSeq (oSet (xMove g0) p25 
(oSet (xLook (lkLen .sl g25)) p26 
(oSet (xMove q10) p27 
oEnd))) (kBlock (nat_lit 2) (kLoop (kSeq (oSet (xLook (lkBin .lss g27 g26)) p28 
oEnd) (kSeq (kCond g28 kSkip (kExit (nat_lit 2))) (kSeq (kBlock (nat_lit 3) (kSeq (oSet (xLook (lkIxSl (nat_lit 1) g25 g27)) p29 
(oSet (xLook (lkLoad1 g29)) p30 
(oSet (xMove g30) p8 
oEnd))) (oSet (xMove g6) p31 
(oSet (xMove g8) p32 
(oSet (xTurn (tnAppend (nat_lit 1) g31 g32)) p33 
(oSet (xMove g33) p6 
oEnd)))))) (oSet (xLook (lkBin .add g27 q16)) p34 
(oSet (xMove g34) p27 
oEnd)))))))) (kSeq (oSet (xMove g6) p35 
(oSet (xMove g35) p2 
oEnd)) kRet))))))⟩
noncomputable def k100 : KFun := ⟨[rTmp (nat_lit 6) g6], (kSeq (oSet (xMove q10) p6 
oEnd) (kSeq (kSeq (oSet (xMove g0) p10 
(oSet (xNil g10) p11 
(oSet (xLook (lkFieldAddr (nat_lit 0) g11)) p12 
(oSet (xLook (lkLoad1 g12)) p13 
(oSet (xMove g1) p14 
(oSet (xCall q201 [g13, g14]) p15 
(oSet (xMove g15) p9 
(oSet (xLook (lkExtract (nat_lit 0) g9)) p16 
(oSet (xLook (lkExtract (nat_lit 1) g9)) p17 
(oSet (xMove g16) p7 
(oSet (xMove g17) p8 
oEnd))))))))))) (kSeq (oSet (xMove g2) p18 
(oSet (xLook (lkBin .lss g18 q10)) p19 
(oSet (xMove g19) p20 
(oSetIf (wantT g20) (xMove g8) p21 
(oSet (xLook (lkPick g20 g21 q0)) p22 
oEnd))))) (kCond g22 (kSeq (oSet (xMove g0) p23 
(oSet (xNil g23) p24 
(oSet (xLook (lkFieldAddr (nat_lit 0) g24)) p25 
(oSet (xLook (lkLoad1 g25)) p26 
(oSet (xMove g7) p27 
(oSet (xLook (lkIxSl (nat_lit 2) g26 g27)) p28 
(oSet (xLook (lkFieldAddr (nat_lit 1) g28)) p29 
(oSet (xLook (lkLoad1 g29)) p30 
(oSet (xLook (lkLen .sl g30)) p31 
(oSet (xMove g31) p6 
oEnd)))))))))) kRet) kSkip))) (kSeq (oSet (xMove g2) p32 
(oSet (xLook (lkMax g32 [q10])) p33 
(oSet (xMove g33) p6 
oEnd))) kRet)))⟩
def q205 : List Value := [(.int .i64 (.ofNat (nat_lit 0))), (.int .i64 (.ofNat (nat_lit 0))), (.slice none (nat_lit 0) (nat_lit 0)), (.slice none (nat_lit 0) (nat_lit 0)), (.slice none (nat_lit 0) (nat_lit 0))]
def q206 : OpdF := kC (.func (.func (nat_lit 130)) ⟨[]⟩ ⟨[]⟩)
def q207 : List Value := [(.slice none (nat_lit 0) (nat_lit 0)), (.int .i64 (.ofNat (nat_lit 0))), (.slice none (nat_lit 0) (nat_lit 0)), (.int .i64 (.ofNat (nat_lit 0))), .nilFunc]
def q208 : List Value := [(.pointer none)]
def q209 : OpdF := kC (.func (.func (nat_lit 133)) ⟨[]⟩ ⟨[]⟩)
def q210 : OpdF := kC (.func (.func (nat_lit 134)) ⟨[]⟩ ⟨[]⟩)
def q211 : OpdF := kC (.func (.func (nat_lit 135)) ⟨[]⟩ ⟨[]⟩)
def q212 : OpdF := kC (.func (.func (nat_lit 136)) ⟨[]⟩ ⟨[]⟩)
noncomputable def k101 : KFun := ⟨[rCellN (nat_lit 6) g6 (nat_lit 2), rTmp (nat_lit 7) g7], (kSeq (oSet (xTurn (tnBox g2)) p5 
(oSet (xTurn (tnAlloc q52)) p6 
(oSet (xMove q10) p7 
oEnd))) (kSeq (oSet (xMove g0) p18 
(oSet (xLook (lkLoadN (nat_lit 3) g5)) p19 
(oSet (xCall q177 [g18, g19]) p20 
(oSet (xMove g20) p17 
(oSet (xLook (lkExtract (nat_lit 0) g17)) p21 
(oSet (xLook (lkExtract (nat_lit 1) g17)) p22 
(oSet (xMove g21) p8 
(oSet (xMove g22) p9 
oEnd)))))))) (kSeq (kBlock (nat_lit 0) (kSeq (oSet (xMove g9) p24 
(oSet (xLook (lkEq true .int g24 q10)) p25 
(oSet (xMove g25) p23 
oEnd))) (kCond g23 (kSeq (oSet (xLook (lkBuild q52 [])) p26 
(oSet (xMove g9) p27 
(oDo (xTurn (tnStore (nat_lit 2) g6 g26)) 
(oSet (xMove g27) p7 
oEnd)))) kRet) (kSeq (oSet (xMove g1) p29 
(oSet (xLook (lkLen .sl g29)) p30 
(oSet (xMove g0) p31 
(oSet (xLook (lkLen .sl g31)) p32 
(oSet (xLook (lkEq true .int g30 g32)) p33 
(oSet (xMove g33) p28 
oEnd)))))) (kCond g28 (kSeq (oSet (xLook (lkBuild q52 [])) p34 
(oDo (xTurn (tnStore (nat_lit 2) g6 g34)) 
(oSet (xMove q18) p7 
oEnd))) kRet) kSkip))))) (kSeq (kSeq (oSet (xMove g1) p35 
(oSet (xLook (lkLen .sl g35)) p36 
(oSet (xMove q10) p37 
oEnd))) (kBlock (nat_lit 1) (kLoop (kSeq (oSet (xLook (lkBin .lss g37 g36)) p38 
oEnd) (kSeq (kCond g38 kSkip (kExit (nat_lit 1))) (kSeq (kBlock (nat_lit 2) (kSeq (oSet (xLook (lkIxSl (nat_lit 5) g35 g37)) p39 
(oSet (xLook (lkLoadN (nat_lit 5) g39)) p40 
(oSet (xTurn (tnAlloc q205)) p11 
(oDo (xTurn (tnStore (nat_lit 5) g11 g40)) 
oEnd)))) (kSeq (oSet (xLook (lkLoadN (nat_lit 5) g11)) p41 
(oSet (xCall q206 [g41]) p42 
(oSet (xMove g42) p12 
oEnd))) (kSeq (oSet (xMove g12) p43 
(oSet (xLook (lkEq true .int g43 q10)) p44 
oEnd)) (kCond g44 (kSeq (oSet (xLook (lkBuild q52 [])) p45 
(oSet (xMove g12) p46 
(oDo (xTurn (tnStore (nat_lit 2) g6 g45)) 
(oSet (xMove g46) p7 
oEnd)))) kRet) kSkip))))) (oSet (xLook (lkBin .add g37 q16)) p47 
(oSet (xMove g47) p37 
oEnd)))))))) (kSeq (oSet (xTurn (tnAlloc q52)) p13 
oEnd) (kSeq (oSet (xLook (lkBuild q207 [])) p48 
(oSet (xTurn (tnBox g48)) p49 
(oSet (xTurn (tnAlloc q208)) p14 
(oDo (xTurn (tnStore (nat_lit 1) g14 g49)) 
oEnd)))) (kSeq (oSet (xLook (lkLoad1 g14)) p50 
(oSet (xLook (lkMkFunc (.func (nat_lit 131)) [] [g13, g14])) p51 
(oSet (xNil g50) p52 
(oSet (xLook (lkFieldAddr (nat_lit 4) g52)) p53 
(oDo (xTurn (tnStore (nat_lit 1) g53 g51)) 
oEnd))))) (kSeq (kSeq (oSet (xMove q10) p15 
oEnd) (kBlock (nat_lit 3) (kLoop (kSeq (kSeq (oSet (xMove g15) p54 
(oSet (xMove g0) p55 
(oSet (xLook (lkLen .sl g55)) p56 
(oSet (xLook (lkBin .leq g54 g56)) p57 
oEnd)))) (kCond g57 kSkip (kExit (nat_lit 3)))) (kSeq (kBlock (nat_lit 4) (kSeq (kSeq (oSet (xMove g15) p60 
(oSet (xLook (lkFieldAddr (nat_lit 1) g5)) p61 
(oSet (xLook (lkLoad1 g61)) p62 
(oSet (xLook (lkEq false .int g60 g62)) p63 
(oSet (xMove g63) p64 
(oSetIf (wantT g64) (xLook (lkFieldAddr (nat_lit 0) g5)) p65 
(oSetIf (wantT g64) (xLook (lkLoad1 g65)) p66 
(oSet (xLook (lkPick g64 g66 q0)) p67 
oEnd)))))))) (kCond g67 (kSeq (kDraw 
(dLook (nat_lit 0) [] [] (lkLoad1 g14) p68 
(dTurn (nat_lit 1) [] [] false (xNil g68) p69 
(dLook (nat_lit 2) [] [] (lkFieldAddr (nat_lit 4) g69) p70 
(dLook (nat_lit 3) [] [] (lkLoad1 g70) p71 
(dLook (nat_lit 4) [] [] (lkFieldAddr (nat_lit 2) g5) p72 
(dLook (nat_lit 5) [] [] (lkLoad1 g72) p73 
(dTurn (nat_lit 6) [] [] true (xCall g71 [g73]) p74 
(dTurn (nat_lit 7) [] [] false (xTurn (tnAlloc q205)) p16 
(dTurn (nat_lit 8) [] [(nat_lit 6)] true (xTurn (tnStore (nat_lit 5) g16 g74)) noDst (dEnd [(nat_lit 68), (nat_lit 69), (nat_lit 70), (nat_lit 71), (nat_lit 72), (nat_lit 73), (nat_lit 74), (nat_lit 16)]))))))))))) (kSeq (kDraw 
(dLook (nat_lit 0) [] [] (lkLoad1 g14) p75 
(dTurn (nat_lit 1) [] [] false (xNil g75) p76 
(dLook (nat_lit 2) [] [] (lkFieldAddr (nat_lit 2) g76) p77 
(dLook (nat_lit 3) [] [] (lkLoadN (nat_lit 5) g16) p78 
(dTurn (nat_lit 4) [] [] true (xCall q209 [g77, g78]) p79 (dEnd [(nat_lit 75), (nat_lit 76), (nat_lit 77), (nat_lit 78), (nat_lit 79)]))))))) (oSet (xLook (lkFieldAddr (nat_lit 0) g13)) p80 
(oSet (xLook (lkLoad1 g80)) p81 
(oSet (xLook (lkLoadN (nat_lit 5) g16)) p82 
(oSet (xTurn (tnBuildSlice q205 [((nat_lit 0), (nat_lit 5), g82)] (nat_lit 1))) p83 
(oSet (xTurn (tnAppend (nat_lit 5) g81 g83)) p84 
(oSet (xLook (lkFieldAddr (nat_lit 0) g13)) p85 
(oDo (xTurn (tnStore (nat_lit 1) g85 g84)) 
oEnd))))))))) kSkip)) (kSeq (kSeq (oSet (xMove g15) p86 
(oSet (xMove g0) p87 
(oSet (xLook (lkLen .sl g87)) p88 
(oSet (xLook (lkEq false .int g86 g88)) p89 
oEnd)))) (kCond g89 (kExit (nat_lit 3)) kSkip)) (kSeq (kSeq (oSet (xMove g15) p90 
(oSet (xLook (lkFieldAddr (nat_lit 1) g5)) p91 
(oSet (xLook (lkLoad1 g91)) p92 
(oSet (xLook (lkEq false .int g90 g92)) p93 
(oSet (xMove g93) p94 
(oSetIf (wantT g94) (xLook (lkFieldAddr (nat_lit 0) g5)) p95 
(oSetIf (wantT g94) (xLook (lkLoad1 g95)) p96 
(oSetIf (wantT g94) (xLook (lkUn .not g96)) p97 
(oSet (xLook (lkPick g94 g97 q0)) p98 
oEnd))))))))) (kCond g98 (kDraw 
(dLook (nat_lit 0) [] [] (lkLoad1 g14) p99 
(dTurn (nat_lit 1) [] [] false (xNil g99) p100 
(dLook (nat_lit 2) [] [] (lkFieldAddr (nat_lit 0) g100) p101 
(dLook (nat_lit 3) [] [] (lkMove g1) p102 
(dLook (nat_lit 4) [] [] (lkMove g15) p103 
(dLook (nat_lit 5) [] [] (lkIxSl (nat_lit 5) g102 g103) p104 
(dLook (nat_lit 6) [] [] (lkLoadN (nat_lit 5) g104) p105 
(dTurn (nat_lit 7) [] [] true (xCall q209 [g101, g105]) p106 (dEnd [(nat_lit 99), (nat_lit 100), (nat_lit 101), (nat_lit 102), (nat_lit 103), (nat_lit 104), (nat_lit 105), (nat_lit 106)])))))))))) (kDraw 
(dLook (nat_lit 0) [] [] (lkFieldAddr (nat_lit 0) g13) p107 
(dLook (nat_lit 1) [] [] (lkLoad1 g107) p108 
(dLook (nat_lit 2) [] [] (lkLoad1 g14) p109 
(dLook (nat_lit 3) [] [] (lkMove g0) p110 
(dLook (nat_lit 4) [] [] (lkMove g15) p111 
(dLook (nat_lit 5) [] [] (lkIxSl (nat_lit 1) g110 g111) p112 
(dLook (nat_lit 6) [] [] (lkLoad1 g112) p113 
(dLook (nat_lit 7) [] [] (lkMove g1) p114 
(dLook (nat_lit 8) [] [] (lkMove g15) p115 
(dLook (nat_lit 9) [] [] (lkIxSl (nat_lit 5) g114 g115) p116 
(dLook (nat_lit 10) [] [] (lkLoadN (nat_lit 5) g116) p117 
(dTurn (nat_lit 11) [(nat_lit 1)] [] true (xCall q211 [g109, g113, g117]) p118 
(dTurn (nat_lit 12) [(nat_lit 1)] [(nat_lit 11)] true (xCall q210 [g118]) p119 
(dTurn (nat_lit 13) [] [(nat_lit 11), (nat_lit 12)] false (xTurn (tnBuildSlice q205 [((nat_lit 0), (nat_lit 5), g119)] (nat_lit 1))) p120 
(dTurn (nat_lit 14) [] [(nat_lit 11), (nat_lit 12)] true (xTurn (tnAppend (nat_lit 5) g108 g120)) p121 
(dLook (nat_lit 15) [] [(nat_lit 11), (nat_lit 12), (nat_lit 14)] (lkFieldAddr (nat_lit 0) g13) p122 
(dTurn (nat_lit 16) [] [(nat_lit 11), (nat_lit 12), (nat_lit 14)] true (xTurn (tnStore (nat_lit 1) g122 g121)) noDst (dEnd [(nat_lit 107), (nat_lit 108), (nat_lit 109), (nat_lit 110), (nat_lit 111), (nat_lit 112), (nat_lit 113), (nat_lit 114), (nat_lit 115), (nat_lit 116), (nat_lit 117), (nat_lit 118), (nat_lit 119), (nat_lit 120), (nat_lit 121), (nat_lit 122)]))))))))))))))))))))) (kSeq (oSet (xLook (lkLoad1 g14)) p123 
(oSet (xCall q212 [g123]) p124 
(oSet (xLook (lkEq true .int g124 q10)) p125 
oEnd))) (kCond g125 (kSeq (oSet (xLook (lkBuild q52 [])) p126 
(oSet (xLook (lkLoad1 g14)) p127 
(oSet (xCall q212 [g127]) p128 
(oDo (xTurn (tnStore (nat_lit 2) g6 g126)) 
(oSet (xMove g128) p7 
oEnd))))) kRet) kSkip)))))) (oSet (xMove g15) p58 
(oSet (xLook (lkBin .add g58 q16)) p59 
(oSet (xMove g59) p15 
oEnd)))))))) (kSeq (kSeq (oSet (xLook (lkLoad1 g14)) p129 
(oSet (xCall q212 [g129]) p130 
(oSet (xLook (lkEq true .int g130 q10)) p131 
(oSet (xMove g131) p132 
(oSetIf (wantF g132) (xLook (lkFieldAddr (nat_lit 0) g13)) p133 
(oSetIf (wantF g132) (xLook (lkLoad1 g133)) p134 
(oSetIf (wantF g132) (xLook (lkLen .sl g134)) p135 
(oSetIf (wantF g132) (xMove g8) p136 
(oSetIf (wantF g132) (xLook (lkLen .sl g136)) p137 
(oSetIf (wantF g132) (xLook (lkEq true .int g135 g137)) p138 
(oSet (xLook (lkPick g132 q30 g138)) p139 
oEnd))))))))))) (kCond g139 (kSeq (oSet (xLook (lkBuild q52 [])) p140 
(oSet (xLook (lkLoad1 g14)) p141 
(oSet (xCall q212 [g141]) p142 
(oDo (xTurn (tnStore (nat_lit 2) g6 g140)) 
(oSet (xMove g142) p7 
oEnd))))) kRet) kSkip)) (kSeq (oSet (xLook (lkLoadN (nat_lit 2) g13)) p143 
(oDo (xTurn (tnStore (nat_lit 2) g6 g143)) 
(oSet (xMove q10) p7 
oEnd))) kRet))))))))))⟩
def q213 : OpdF := kC (.func (.func (nat_lit 137)) ⟨[]⟩ ⟨[]⟩)
noncomputable def k102 : KFun := ⟨[rTmp (nat_lit 2) g2], (kSeq (oSet (xMove q12) p2 
oEnd) (kSeq (oSet (xMove g0) p6 
(oSet (xCall q213 [g6]) p7 
(oSet (xMove g7) p5 
(oSet (xLook (lkExtract (nat_lit 0) g5)) p8 
(oSet (xLook (lkExtract (nat_lit 1) g5)) p9 
(oSet (xMove g8) p3 
(oSet (xMove g9) p4 
oEnd))))))) (kSeq (oSet (xMove g4) p10 
(oSet (xCall q176 [g10]) p11 
oEnd)) (kSeq (oSet (xMove g3) p12 
(oSet (xMove g12) p2 
oEnd)) kRet))))⟩
noncomputable def k103 : KFun := ⟨[], (kSeq (oSet (xMove g0) p2 
(oSet (xLook (lkEq true .int g2 q10)) p3 
oEnd)) (kCond g3 (oSet (xMove g0) p4 
(oSet (xLook (lkBuild q9 [((nat_lit 0), (nat_lit 1), g4)])) p5 
(oSet (xLook (lkMkIface (nat_lit 126) g5)) p6 
(oDo (xPanic g6) 
oEnd)))) kSkip))⟩
def q214 : OpdF := kC (.func (.func (nat_lit 138)) ⟨[]⟩ ⟨[]⟩)
def q215 : OpdF := kC (.func (.func (nat_lit 140)) ⟨[]⟩ ⟨[]⟩)
def q216 : OpdF := kC (.func (.func (nat_lit 139)) ⟨[]⟩ ⟨[]⟩)
def q217 : OpdF := kC (.func (.func (nat_lit 141)) ⟨[]⟩ ⟨[]⟩)
noncomputable def k104 : KFun := ⟨[rTmp (nat_lit 4) g4, rTmp (nat_lit 5) g5], (kSeq (oSet (xTurn (tnBox g1)) p3 
(oSet (xMove q12) p4 
(oSet (xMove q10) p5 
oEnd))) (kSeq (kSeq (oSet (xMove g0) p11 
(oSet (xCall q214 [g11]) p12 
(oSet (xMove g12) p6 
oEnd))) (kSeq (oSet (xMove g6) p13 
(oSet (xLook (lkEq true .int g13 q10)) p14 
oEnd)) (kCond g14 (kSeq (oSet (xMove g6) p15 
(oSet (xMove q12) p4 
(oSet (xMove g15) p5 
oEnd))) kRet) kSkip))) (kSeq (oSet (xMove g0) p16 
(oSet (xLook (lkLen .sl g16)) p17 
(oSet (xLook (lkBin .sub g17 q16)) p18 
(oSet (xMove g18) p7 
oEnd)))) (kSeq (kSeq (oSet (xLook (lkFieldAddr (nat_lit 0) g3)) p19 
(oSet (xLook (lkLoad1 g19)) p20 
oEnd)) (kCond g20 (oSet (xMove g0) p21 
(oSet (xLook (lkLen .sl g21)) p22 
(oSet (xMove g22) p7 
oEnd))) kSkip)) (kSeq (kSeq (oSet (xLook (lkFieldAddr (nat_lit 1) g3)) p23 
(oSet (xLook (lkLoad1 g23)) p24 
(oSet (xLook (lkBin .lss g24 q10)) p25 
(oSet (xMove g25) p26 
(oSetIf (wantF g26) (xLook (lkFieldAddr (nat_lit 1) g3)) p27 
(oSetIf (wantF g26) (xLook (lkLoad1 g27)) p28 
(oSetIf (wantF g26) (xMove g7) p29 
(oSetIf (wantF g26) (xLook (lkBin .gtr g28 g29)) p30 
(oSet (xLook (lkPick g26 q30 g30)) p31 
oEnd))))))))) (kCond g31 (kSeq (oSet (xMove q12) p4 
(oSet (xMove q19) p5 
oEnd)) kRet) kSkip)) (kSeq (oSet (xMove g0) p32 
(oSet (xCall q178 [g32]) p33 
(oSet (xMove g33) p8 
oEnd))) (kSeq (kSeq (oSet (xLook (lkFieldAddr (nat_lit 0) g3)) p34 
(oSet (xLook (lkLoad1 g34)) p35 
(oSet (xLook (lkUn .not g35)) p36 
oEnd))) (kCond g36 (kSeq (oSet (xMove g8) p37 
(oSet (xLook (lkFieldAddr (nat_lit 1) g3)) p38 
(oSet (xLook (lkLoad1 g38)) p39 
(oSet (xLook (lkFieldAddr (nat_lit 1) g3)) p40 
(oSet (xLook (lkLoad1 g40)) p41 
(oSet (xLook (lkBin .add g41 q16)) p42 
(oSet (xCall q215 [g37, g39, g42]) p43 
(oSet (xCall q216 [g43]) p44 
(oSet (xMove g44) p4 
(oSet (xMove q10) p5 
oEnd)))))))))) kRet) kSkip)) (kSeq (kSeq (oSet (xLook (lkFieldAddr (nat_lit 2) g3)) p46 
(oSet (xLook (lkLoad1 g46)) p47 
(oSet (xCall q47 [g47]) p48 
(oSet (xMove g48) p45 
(oSet (xLook (lkExtract (nat_lit 0) g45)) p49 
(oSet (xLook (lkExtract (nat_lit 1) g45)) p50 
(oSet (xMove g49) p9 
(oSet (xMove g50) p10 
oEnd)))))))) (kSeq (oSet (xMove g9) p51 
(oSet (xLook (lkEq true .int g51 q10)) p52 
oEnd)) (kCond g52 (kSeq (oSet (xMove g9) p53 
(oSet (xMove q12) p4 
(oSet (xMove g53) p5 
oEnd))) kRet) kSkip))) (kSeq (kSeq (oSet (xMove g0) p54 
(oSet (xLook (lkLen .sl g54)) p55 
(oSet (xLook (lkEq false .int g55 q76)) p56 
oEnd))) (kCond g56 (kSeq (oSet (xMove q12) p4 
(oSet (xMove q7) p5 
oEnd)) kRet) kSkip)) (kSeq (oSet (xMove g8) p57 
(oSet (xLook (lkFieldAddr (nat_lit 1) g3)) p58 
(oSet (xLook (lkLoad1 g58)) p59 
(oSet (xLook (lkFieldAddr (nat_lit 2) g3)) p60 
(oSet (xLook (lkLoad1 g60)) p61 
(oSet (xTurn (tnBuildSlice q77 [((nat_lit 0), (nat_lit 1), g61)] (nat_lit 1))) p62 
(oSet (xCall q217 [g57, g59, g62]) p63 
(oSet (xCall q216 [g63]) p64 
(oSet (xMove g64) p4 
(oSet (xMove q10) p5 
oEnd)))))))))) kRet))))))))))⟩
noncomputable def k105 : KFun := ⟨[rTmp (nat_lit 2) g2], (kSeq (oSet (xMove q12) p2 
oEnd) (kSeq (kSeq (oSet (xMove g0) p3 
(oSet (xLook (lkEq false .slice g3 q12)) p4 
oEnd)) (kCond g4 (kSeq (oSet (xMove q12) p2 
oEnd) kRet) kSkip)) (kSeq (oSet (xTurn (tnBuildSlice [] [] (nat_lit 0))) p5 
(oSet (xMove g0) p6 
(oSet (xTurn (tnAppend (nat_lit 1) g5 g6)) p7 
(oSet (xMove g7) p2 
oEnd)))) kRet)))⟩
def q218 : OpdF := kC (.func (.func (nat_lit 143)) ⟨[]⟩ ⟨[]⟩)
def q219 : OpdF := kC (.func (.func (nat_lit 142)) ⟨[]⟩ ⟨[]⟩)
def q220 : OpdF := kC (.func (.func (nat_lit 144)) ⟨[]⟩ ⟨[]⟩)
noncomputable def k107 : KFun := ⟨[rTmp (nat_lit 4) g4], (kSeq (oSet (xTurn (tnBox g1)) p3 
(oSet (xMove q12) p4 
oEnd)) (kSeq (oSet (xMove g0) p8 
(oSet (xLook (lkFieldAddr (nat_lit 0) g3)) p9 
(oSet (xLook (lkLoad1 g9)) p10 
(oSet (xCall q201 [g8, g10]) p11 
(oSet (xMove g11) p7 
(oSet (xLook (lkExtract (nat_lit 0) g7)) p12 
(oSet (xLook (lkExtract (nat_lit 1) g7)) p13 
(oSet (xMove g12) p5 
(oSet (xMove g13) p6 
oEnd))))))))) (kSeq (kSeq (oSet (xMove g6) p14 
oEnd) (kCond g14 (oSet (xMove g0) p15 
(oSet (xCall q218 [g15]) p16 
(oSet (xMove g5) p17 
(oSet (xMove g5) p18 
(oSet (xLook (lkBin .add g18 q16)) p19 
(oSet (xCall q219 [g16, g17, g19]) p20 
(oSet (xMove g20) p0 
oEnd))))))) kSkip)) (kSeq (kDraw 
(dLook (nat_lit 0) [] [] (lkMove g0) p21 
(dTurn (nat_lit 1) [] [] true (xCall q218 [g21]) p22 
(dLook (nat_lit 2) [] [] (lkMove g5) p23 
(dLook (nat_lit 3) [(nat_lit 1)] [] (lkLoadN (nat_lit 2) g3) p24 
(dTurn (nat_lit 4) [] [] false (xTurn (tnBuildSlice q24 [((nat_lit 0), (nat_lit 2), g24)] (nat_lit 1))) p25 
(dTurn (nat_lit 5) [] [(nat_lit 1)] true (xCall q220 [g22, g23, g25]) p26 
(dLook (nat_lit 6) [] [(nat_lit 1), (nat_lit 5)] (lkMove g26) p4 (dEnd [(nat_lit 21), (nat_lit 22), (nat_lit 23), (nat_lit 24), (nat_lit 25), (nat_lit 26), (nat_lit 4)]))))))))) kRet))))⟩
def q221 : OpdF := kC (.func (.func (nat_lit 145)) ⟨[]⟩ ⟨[]⟩)
noncomputable def k108 : KFun := ⟨[rTmp (nat_lit 4) g4], (kSeq (oSet (xMove q12) p4 
oEnd) (kSeq (oSet (xMove g0) p8 
(oSet (xMove g1) p9 
(oSet (xCall q221 [g8, g9]) p10 
(oSet (xMove g10) p7 
(oSet (xLook (lkExtract (nat_lit 0) g7)) p11 
(oSet (xLook (lkExtract (nat_lit 1) g7)) p12 
(oSet (xMove g11) p5 
(oSet (xMove g12) p6 
oEnd)))))))) (kSeq (kSeq (oSet (xMove g6) p13 
(oSet (xLook (lkUn .not g13)) p14 
oEnd)) (kCond g14 (kSeq (oSet (xMove q12) p4 
oEnd) kRet) kSkip)) (kSeq (oSet (xMove g5) p15 
(oSet (xTurn (tnBuildSlice q5 [((nat_lit 0), (nat_lit 1), g15)] (nat_lit 1))) p16 
(oSet (xMove g16) p4 
oEnd))) kRet))))⟩
def q222 : OpdF := kC (.func (.func (nat_lit 146)) ⟨[]⟩ ⟨[]⟩)
noncomputable def k109 : KFun := ⟨[rTmp (nat_lit 6) g6], (kSeq (oSet (xMove q12) p6 
oEnd) (kSeq (oSet (xMove g0) p10 
(oSet (xMove g1) p11 
(oSet (xCall q170 [g10, g11]) p12 
(oSet (xMove g12) p7 
oEnd)))) (kSeq (oSet (xMove g7) p14 
(oSet (xMove g0) p15 
(oSet (xMove g1) p16 
(oSet (xMove g2) p17 
(oSet (xCall q173 [g15, g16, g17]) p18 
(oSet (xCall q222 [g14, g18]) p19 
(oSet (xMove g19) p13 
(oSet (xLook (lkExtract (nat_lit 0) g13)) p20 
(oSet (xLook (lkExtract (nat_lit 1) g13)) p21 
(oSet (xMove g20) p8 
(oSet (xMove g21) p9 
oEnd))))))))))) (kSeq (oSet (xMove g9) p22 
(oSet (xCall q176 [g22]) p23 
oEnd)) (kSeq (oSet (xMove g8) p24 
(oSet (xMove g24) p6 
oEnd)) kRet)))))⟩
def q223 : OpdF := kC (.func (.func (nat_lit 147)) ⟨[]⟩ ⟨[]⟩)
def q224 : OpdF := kC (.func (.func (nat_lit 148)) ⟨[]⟩ ⟨[]⟩)
noncomputable def k111d0 : KD := 
(dLook (nat_lit 18) [] [] (lkPick g49 q30 g63) p64 
(dLook (nat_lit 19) [] [] (lkMove g64) p45 (dEnd [(nat_lit 46), (nat_lit 47), (nat_lit 48), (nat_lit 49), (nat_lit 50), (nat_lit 51), (nat_lit 52), (nat_lit 53), (nat_lit 54), (nat_lit 55), (nat_lit 56), (nat_lit 57), (nat_lit 58), (nat_lit 59), (nat_lit 60), (nat_lit 61), (nat_lit 62), (nat_lit 63), (nat_lit 64), (nat_lit 45)])))
noncomputable def k111d1 : KD := 
(dIf [] (wantF g49) p63 (dLook (nat_lit 17) [] [] (lkPick g53 g62 q0) p63 k111d0) k111d0)
noncomputable def k111d2 : KD := 
(dIf [] (wantT g53) p62 (dLook (nat_lit 16) [] [] (lkBin .lss g57 g61) p62 k111d1) k111d1)
noncomputable def k111d3 : KD := 
(dIf [] (wantT g53) p61 (dLook (nat_lit 15) [] [] (lkLoad1 g60) p61 k111d2) k111d2)
noncomputable def k111d4 : KD := 
(dIf [] (wantT g53) p60 (dLook (nat_lit 14) [] [] (lkFieldAddr (nat_lit 0) g59) p60 k111d3) k111d3)
noncomputable def k111d5 : KD := 
(dIf [] (wantT g53) p59 (dLook (nat_lit 13) [] [] (lkIxSl (nat_lit 2) g58 q10) p59 k111d4) k111d4)
noncomputable def k111d6 : KD := 
(dIf [] (wantT g53) p58 (dLook (nat_lit 12) [] [] (lkMove g1) p58 k111d5) k111d5)
noncomputable def k111d7 : KD := 
(dIf [] (wantT g53) p57 (dLook (nat_lit 11) [] [] (lkLoad1 g56) p57 k111d6) k111d6)
noncomputable def k111d8 : KD := 
(dIf [] (wantT g53) p56 (dLook (nat_lit 10) [] [] (lkFieldAddr (nat_lit 0) g55) p56 k111d7) k111d7)
noncomputable def k111d9 : KD := 
(dIf [] (wantT g53) p55 (dLook (nat_lit 9) [] [] (lkIxSl (nat_lit 2) g54 q10) p55 k111d8) k111d8)
noncomputable def k111d10 : KD := 
(dIf [] (wantT g53) p54 (dLook (nat_lit 8) [] [] (lkMove g0) p54 k111d9) k111d9)
noncomputable def k111d11 : KD := 
(dIf [] (wantF g49) p53 (dLook (nat_lit 7) [] [] (lkMove g52) p53 k111d10) k111d10)
noncomputable def k111d12 : KD := 
(dIf [] (wantF g49) p52 (dLook (nat_lit 6) [] [] (lkBin .gtr g51 q10) p52 k111d11) k111d11)
noncomputable def k111d13 : KD := 
(dIf [] (wantF g49) p51 (dLook (nat_lit 5) [] [] (lkLen .sl g50) p51 k111d12) k111d12)
noncomputable def k111d14 : KD := 
(dLook (nat_lit 13) [] [] (lkPick g79 q30 g88) p89 
(dLook (nat_lit 14) [] [] (lkMove g89) p75 (dEnd [(nat_lit 76), (nat_lit 77), (nat_lit 78), (nat_lit 79), (nat_lit 80), (nat_lit 81), (nat_lit 82), (nat_lit 83), (nat_lit 84), (nat_lit 85), (nat_lit 86), (nat_lit 87), (nat_lit 88), (nat_lit 89), (nat_lit 75)])))
noncomputable def k111d15 : KD := 
(dIf [] (wantF g79) p88 (dLook (nat_lit 12) [] [] (lkBin .lss g83 g87) p88 k111d14) k111d14)
noncomputable def k111d16 : KD := 
(dIf [] (wantF g79) p87 (dLook (nat_lit 11) [] [] (lkLoad1 g86) p87 k111d15) k111d15)
noncomputable def k111d17 : KD := 
(dIf [] (wantF g79) p86 (dLook (nat_lit 10) [] [] (lkFieldAddr (nat_lit 0) g85) p86 k111d16) k111d16)
noncomputable def k111d18 : KD := 
(dIf [] (wantF g79) p85 (dLook (nat_lit 9) [] [] (lkIxSl (nat_lit 2) g84 q10) p85 k111d17) k111d17)
noncomputable def k111d19 : KD := 
(dIf [] (wantF g79) p84 (dLook (nat_lit 8) [] [] (lkMove g0) p84 k111d18) k111d18)
noncomputable def k111d20 : KD := 
(dIf [] (wantF g79) p83 (dLook (nat_lit 7) [] [] (lkLoad1 g82) p83 k111d19) k111d19)
noncomputable def k111d21 : KD := 
(dIf [] (wantF g79) p82 (dLook (nat_lit 6) [] [] (lkFieldAddr (nat_lit 0) g81) p82 k111d20) k111d20)
noncomputable def k111d22 : KD := 
(dIf [] (wantF g79) p81 (dLook (nat_lit 5) [] [] (lkIxSl (nat_lit 2) g80 q10) p81 k111d21) k111d21)
noncomputable def k111 : KFun := ⟨[rTmp (nat_lit 4) g4], (kSeq (oSet (xMove q12) p4 
oEnd) (kSeq (kSeq (oSet (xMove g0) p6 
(oSet (xCall q223 [g6]) p7 
(oSet (xLook (lkEq true .int g7 q10)) p8 
(oSet (xMove g8) p9 
(oSetIf (wantF g9) (xMove g1) p10 
(oSetIf (wantF g9) (xCall q223 [g10]) p11 
(oSetIf (wantF g9) (xLook (lkEq true .int g11 q10)) p12 
(oSet (xLook (lkPick g9 q30 g12)) p13 
oEnd)))))))) (kCond g13 (kSeq (oSet (xMove q12) p4 
oEnd) kRet) kSkip)) (kSeq (oSet (xMove q12) p5 
oEnd) (kSeq (kBlock (nat_lit 0) (kLoop (kSeq (kSeq (oSet (xMove g0) p14 
(oSet (xLook (lkLen .sl g14)) p15 
(oSet (xLook (lkBin .gtr g15 q10)) p16 
(oSet (xMove g16) p17 
(oSetIf (wantF g17) (xMove g1) p18 
(oSetIf (wantF g17) (xLook (lkLen .sl g18)) p19 
(oSetIf (wantF g17) (xLook (lkBin .gtr g19 q10)) p20 
(oSet (xLook (lkPick g17 q30 g20)) p21 
oEnd)))))))) (kCond g21 kSkip (kExit (nat_lit 0)))) (kBlock (nat_lit 1) (kBlock (nat_lit 2) (kSeq (kDraw 
(dLook (nat_lit 0) [] [] (lkMove g1) p46 
(dLook (nat_lit 1) [] [] (lkLen .sl g46) p47 
(dLook (nat_lit 2) [] [] (lkEq false .int g47 q10) p48 
(dLook (nat_lit 3) [] [] (lkMove g48) p49 
(dIf [] (wantF g49) p50 (dLook (nat_lit 4) [] [] (lkMove g0) p50 k111d13) k111d13)))))) (kCond g45 (kSeq (oSet (xMove g5) p65 
(oSet (xMove g0) p66 
(oSet (xLook (lkIxSl (nat_lit 2) g66 q10)) p67 
(oSet (xLook (lkFieldAddr (nat_lit 0) g67)) p68 
(oSet (xLook (lkLoad1 g68)) p69 
(oSet (xLook (lkBuild q69 [((nat_lit 0), (nat_lit 1), g69), ((nat_lit 2), (nat_lit 1), q30)])) p70 
(oSet (xTurn (tnBuildSlice q69 [((nat_lit 0), (nat_lit 3), g70)] (nat_lit 1))) p71 
(oSet (xTurn (tnAppend (nat_lit 3) g65 g71)) p72 
(oSet (xMove g72) p5 
oEnd))))))))) (oSet (xMove g0) p73 
(oSet (xLook (lkSliceSl (nat_lit 2) g73 (some q16) none none)) p74 
(oSet (xMove g74) p0 
oEnd)))) (kSeq (kDraw 
(dLook (nat_lit 0) [] [] (lkMove g0) p76 
(dLook (nat_lit 1) [] [] (lkLen .sl g76) p77 
(dLook (nat_lit 2) [] [] (lkEq false .int g77 q10) p78 
(dLook (nat_lit 3) [] [] (lkMove g78) p79 
(dIf [] (wantF g79) p80 (dLook (nat_lit 4) [] [] (lkMove g1) p80 k111d22) k111d22)))))) (kCond g75 (kSeq (kDraw 
(dLook (nat_lit 0) [] [] (lkMove g5) p90 
(dLook (nat_lit 1) [] [] (lkMove g1) p91 
(dLook (nat_lit 2) [] [] (lkIxSl (nat_lit 2) g91 q10) p92 
(dLook (nat_lit 3) [] [] (lkFieldAddr (nat_lit 0) g92) p93 
(dLook (nat_lit 4) [] [] (lkLoad1 g93) p94 
(dLook (nat_lit 5) [] [] (lkMove g1) p95 
(dLook (nat_lit 6) [] [] (lkIxSl (nat_lit 2) g95 q10) p96 
(dLook (nat_lit 7) [] [] (lkFieldAddr (nat_lit 1) g96) p97 
(dLook (nat_lit 8) [] [] (lkLoad1 g97) p98 
(dLook (nat_lit 9) [] [] (lkBuild q69 [((nat_lit 0), (nat_lit 1), g94), ((nat_lit 1), (nat_lit 1), g98)]) p99 
(dTurn (nat_lit 10) [] [] false (xTurn (tnBuildSlice q69 [((nat_lit 0), (nat_lit 3), g99)] (nat_lit 1))) p100 
(dTurn (nat_lit 11) [] [] true (xTurn (tnAppend (nat_lit 3) g90 g100)) p101 
(dLook (nat_lit 12) [] [(nat_lit 11)] (lkMove g101) p5 (dEnd [(nat_lit 90), (nat_lit 91), (nat_lit 92), (nat_lit 93), (nat_lit 94), (nat_lit 95), (nat_lit 96), (nat_lit 97), (nat_lit 98), (nat_lit 99), (nat_lit 100), (nat_lit 101), (nat_lit 5)]))))))))))))))) (oSet (xMove g1) p102 
(oSet (xLook (lkSliceSl (nat_lit 2) g102 (some q16) none none)) p103 
(oSet (xMove g103) p1 
oEnd)))) (kSeq (kSeq (kDraw 
(dLook (nat_lit 0) [] [] (lkMove g0) p22 
(dLook (nat_lit 1) [] [] (lkIxSl (nat_lit 2) g22 q10) p23 
(dLook (nat_lit 2) [] [] (lkLoadN (nat_lit 2) g23) p24 
(dLook (nat_lit 3) [] [] (lkMove g1) p25 
(dLook (nat_lit 4) [] [] (lkIxSl (nat_lit 2) g25 q10) p26 
(dLook (nat_lit 5) [] [] (lkLoadN (nat_lit 2) g26) p27 
(dLook (nat_lit 6) [] [] (lkEq true (.flat [.str, .str]) g24 g27) p28 (dEnd [(nat_lit 22), (nat_lit 23), (nat_lit 24), (nat_lit 25), (nat_lit 26), (nat_lit 27), (nat_lit 28)]))))))))) (kCond g28 (kDraw 
(dLook (nat_lit 0) [] [] (lkMove g5) p29 
(dLook (nat_lit 1) [] [] (lkMove g1) p30 
(dLook (nat_lit 2) [] [] (lkIxSl (nat_lit 2) g30 q10) p31 
(dLook (nat_lit 3) [] [] (lkFieldAddr (nat_lit 0) g31) p32 
(dLook (nat_lit 4) [] [] (lkLoad1 g32) p33 
(dLook (nat_lit 5) [] [] (lkMove g1) p34 
(dLook (nat_lit 6) [] [] (lkIxSl (nat_lit 2) g34 q10) p35 
(dLook (nat_lit 7) [] [] (lkFieldAddr (nat_lit 1) g35) p36 
(dLook (nat_lit 8) [] [] (lkLoad1 g36) p37 
(dLook (nat_lit 9) [] [] (lkBuild q69 [((nat_lit 0), (nat_lit 1), g33), ((nat_lit 1), (nat_lit 1), g37)]) p38 
(dTurn (nat_lit 10) [] [] false (xTurn (tnBuildSlice q69 [((nat_lit 0), (nat_lit 3), g38)] (nat_lit 1))) p39 
(dTurn (nat_lit 11) [] [] true (xTurn (tnAppend (nat_lit 3) g29 g39)) p40 
(dLook (nat_lit 12) [] [(nat_lit 11)] (lkMove g40) p5 (dEnd [(nat_lit 29), (nat_lit 30), (nat_lit 31), (nat_lit 32), (nat_lit 33), (nat_lit 34), (nat_lit 35), (nat_lit 36), (nat_lit 37), (nat_lit 38), (nat_lit 39), (nat_lit 40), (nat_lit 5)]))))))))))))))) kSkip)) (kDraw 
(dLook (nat_lit 0) [] [] (lkMove g0) p41 
(dLook (nat_lit 1) [] [] (lkSliceSl (nat_lit 2) g41 (some q16) none none) p42 
(dLook (nat_lit 2) [] [] (lkMove g1) p43 
(dLook (nat_lit 3) [] [] (lkSliceSl (nat_lit 2) g43 (some q16) none none) p44 
(dLook (nat_lit 4) [] [] (lkMove g42) p0 
(dLook (nat_lit 5) [] [] (lkMove g44) p1 (dEnd [(nat_lit 41), (nat_lit 42), (nat_lit 43), (nat_lit 44), (nat_lit 0), (nat_lit 1)])))))))))))))))))) (kSeq (oSet (xMove g5) p104 
(oSet (xMove g104) p4 
oEnd)) kRet)))))⟩
noncomputable def k112 : KFun := ⟨[rTmp (nat_lit 4) g4], (kSeq (oSet (xMove q12) p4 
oEnd) (kSeq (oSet (xMove q12) p5 
oEnd) (kSeq (kSeq (oSet (xMove g1) p10 
(oSet (xLook (lkLen .sl g10)) p11 
(oSet (xMove q10) p12 
oEnd))) (kBlock (nat_lit 0) (kLoop (kSeq (oSet (xLook (lkBin .lss g12 g11)) p13 
oEnd) (kSeq (kCond g13 kSkip (kExit (nat_lit 0))) (kSeq (kBlock (nat_lit 1) (kSeq (oSet (xLook (lkIxSl (nat_lit 1) g10 g12)) p14 
(oSet (xLook (lkLoad1 g14)) p15 
(oSet (xMove g15) p7 
oEnd))) (kSeq (oSet (xMove g0) p17 
(oSet (xNil g17) p18 
(oSet (xLook (lkFieldAddr (nat_lit 0) g18)) p19 
(oSet (xLook (lkLoad1 g19)) p20 
(oSet (xMove g7) p21 
(oSet (xCall q201 [g20, g21]) p22 
(oSet (xMove g22) p16 
(oSet (xLook (lkExtract (nat_lit 0) g16)) p23 
(oSet (xLook (lkExtract (nat_lit 1) g16)) p24 
(oSet (xMove g23) p8 
(oSet (xMove g24) p9 
oEnd))))))))))) (kSeq (oSet (xMove g9) p25 
(oSet (xLook (lkUn .not g25)) p26 
(oSet (xCall q118 [g26, q20]) p27 
oEnd))) (oSet (xMove g5) p28 
(oSet (xMove g0) p29 
(oSet (xNil g29) p30 
(oSet (xLook (lkFieldAddr (nat_lit 0) g30)) p31 
(oSet (xLook (lkLoad1 g31)) p32 
(oSet (xMove g8) p33 
(oSet (xLook (lkIxSl (nat_lit 2) g32 g33)) p34 
(oSet (xLook (lkFieldAddr (nat_lit 1) g34)) p35 
(oSet (xLook (lkLoad1 g35)) p36 
(oSet (xTurn (tnBuildSlice q77 [((nat_lit 0), (nat_lit 1), g36)] (nat_lit 1))) p37 
(oSet (xTurn (tnAppend (nat_lit 1) g28 g37)) p38 
(oSet (xMove g38) p5 
oEnd)))))))))))))))) (oSet (xLook (lkBin .add g12 q16)) p39 
(oSet (xMove g39) p12 
oEnd)))))))) (kSeq (oSet (xMove g5) p40 
(oSet (xMove g40) p4 
oEnd)) kRet))))⟩
def q227 : List Value := [(.slice none (nat_lit 0) (nat_lit 0)), (.int .i64 (.ofNat (nat_lit 0)))]
def q228 : OpdF := kC (.func (.func (nat_lit 151)) ⟨[]⟩ ⟨[]⟩)
def q229 : OpdF := kC (.func (.func (nat_lit 152)) ⟨[]⟩ ⟨[]⟩)
def q230 : OpdF := kC (.func (.func (nat_lit 153)) ⟨[]⟩ ⟨[]⟩)
noncomputable def k116 : KFun := ⟨[rTmp (nat_lit 2) g2], (kSeq (oSet (xMove q12) p2 
oEnd) (kSeq (oSet (xMove g0) p4 
(oSet (xCall q229 [g4]) p5 
(oSet (xMove g5) p3 
oEnd))) (kSeq (oSet (xMove g3) p6 
(oSet (xCall q230 [g6]) p7 
oEnd)) (kSeq (oSet (xMove g3) p8 
(oSet (xMove g8) p2 
oEnd)) kRet))))⟩
def q231 : OpdF := kC .nilFunc
def q233 : List Value := [(.map none)]
def q244 : OpdF := kC (.int .i64 (.ofNat (nat_lit 32)))
noncomputable def k121 : KFun := ⟨[rTmp (nat_lit 4) g4], (kSeq (oSet (xMove q10) p4 
oEnd) (kSeq (oSet (xMove g0) p5 
(oSet (xLook (lkBin .lss g5 q10)) p6 
(oSet (xMove g6) p7 
(oSetIf (wantF g7) (xMove g0) p8 
(oSetIf (wantF g7) (xMove g1) p9 
(oSetIf (wantF g7) (xLook (lkBin .geq g8 g9)) p10 
(oSet (xLook (lkPick g7 q30 g10)) p11 
(oSet (xCall q118 [g11, q19]) p12 
oEnd)))))))) (kSeq (oSet (xMove g0) p13 
(oSet (xMove g13) p4 
oEnd)) kRet)))⟩
def q254 : OpdF := kC (.func (.func (nat_lit 166)) ⟨[]⟩ ⟨[]⟩)
def q255 : OpdF := kC (.func (.func (nat_lit 167)) ⟨[]⟩ ⟨[]⟩)
def q256 : OpdF := kC (.func (.func (nat_lit 169)) ⟨[]⟩ ⟨[]⟩)
noncomputable def k122 : KFun := ⟨[rTmp (nat_lit 2) g2, rTmp (nat_lit 3) g3], (kSeq (oSet (xTurn (tnBox g0)) p1 
(oSet (xMove q12) p2 
(oSet (xMove q10) p3 
oEnd))) (kSeq (kSeq (oSet (xLook (lkLoadN (nat_lit 5) g1)) p6 
(oSet (xCall q206 [g6]) p7 
(oSet (xMove g7) p4 
oEnd))) (kSeq (oSet (xMove g4) p8 
(oSet (xLook (lkEq true .int g8 q10)) p9 
oEnd)) (kCond g9 (kSeq (oSet (xMove g4) p10 
(oSet (xMove q12) p2 
(oSet (xMove g10) p3 
oEnd))) kRet) kSkip))) (kSeq (oSet (xCall q48 []) p11 
(oSet (xLook (lkBuild q208 [((nat_lit 0), (nat_lit 1), g11)])) p12 
(oSet (xTurn (tnAlloc q208)) p5 
(oDo (xTurn (tnStore (nat_lit 1) g5 g12)) 
oEnd)))) (kSeq (oSet (xLook (lkFieldAddr (nat_lit 0) g5)) p13 
(oSet (xLook (lkLoad1 g13)) p14 
(oSet (xLook (lkFieldAddr (nat_lit 0) g1)) p15 
(oSet (xLook (lkLoad1 g15)) p16 
(oSet (xCall q49 [g14, g16]) p17 
oEnd))))) (kSeq (oSet (xLook (lkFieldAddr (nat_lit 0) g5)) p18 
(oSet (xLook (lkLoad1 g18)) p19 
(oSet (xLook (lkFieldAddr (nat_lit 1) g1)) p20 
(oSet (xLook (lkLoad1 g20)) p21 
(oSet (xCall q49 [g19, g21]) p22 
oEnd))))) (kSeq (oSet (xLook (lkLoadN (nat_lit 1) g5)) p23 
(oSet (xLook (lkFieldAddr (nat_lit 2) g1)) p24 
(oSet (xLook (lkLoad1 g24)) p25 
(oSet (xLook (lkFieldAddr (nat_lit 0) g5)) p26 
(oSet (xLook (lkLoad1 g26)) p27 
(oSet (xLook (lkMkFunc (.func (nat_lit 45)) [g27] [])) p28 
(oSet (xCall q254 [g23, g25, g28]) p29 
oEnd))))))) (kSeq (oSet (xLook (lkLoadN (nat_lit 1) g5)) p30 
(oSet (xLook (lkFieldAddr (nat_lit 3) g1)) p31 
(oSet (xLook (lkLoad1 g31)) p32 
(oSet (xLook (lkLoadN (nat_lit 1) g5)) p33 
(oSet (xLook (lkMkFunc (.func (nat_lit 168)) [g33] [])) p34 
(oSet (xCall q255 [g30, g32, g34]) p35 
oEnd)))))) (kSeq (oSet (xLook (lkLoadN (nat_lit 1) g5)) p36 
(oSet (xLook (lkFieldAddr (nat_lit 4) g1)) p37 
(oSet (xLook (lkLoad1 g37)) p38 
(oSet (xLook (lkLoadN (nat_lit 1) g5)) p39 
(oSet (xLook (lkMkFunc (.func (nat_lit 170)) [g39] [])) p40 
(oSet (xCall q256 [g36, g38, g40]) p41 
oEnd)))))) (kSeq (oSet (xLook (lkFieldAddr (nat_lit 0) g5)) p42 
(oSet (xLook (lkLoad1 g42)) p43 
(oSet (xCall q50 [g43]) p44 
(oSet (xLook (lkExtract (nat_lit 0) g44)) p45 
(oSet (xLook (lkExtract (nat_lit 1) g44)) p46 
(oSet (xMove g45) p2 
(oSet (xMove g46) p3 
oEnd))))))) kRet)))))))))⟩
noncomputable def k123 : KFun := ⟨[rTmp (nat_lit 4) g4], (kSeq (oSet (xMove q0) p4 
oEnd) (kSeq (oSet (xMove g0) p5 
(oSet (xMove g1) p6 
(oSet (xNil g5) p7 
(oSet (xLook (lkIxArr (nat_lit 256) (nat_lit 1) g7 g6)) p8 
(oSet (xLook (lkLoad1 g8)) p9 
(oSet (xMove g9) p4 
oEnd)))))) kRet))⟩
def q262 : OpdF := kC (.func (.func (nat_lit 174)) ⟨[]⟩ ⟨[]⟩)
def q263 : OpdF := kC (.func (.func (nat_lit 175)) ⟨[]⟩ ⟨[]⟩)
noncomputable def k127 : KFun := ⟨[rTmp (nat_lit 4) g4, rTmp (nat_lit 5) g5], (kSeq (oSet (xMove q10) p4 
(oSet (xMove q0) p5 
oEnd)) (kSeq (oSet (xMove g0) p6 
(oSet (xMove g1) p7 
(oSet (xCall q262 [g6, g7, q263]) p8 
(oSet (xLook (lkExtract (nat_lit 0) g8)) p9 
(oSet (xLook (lkExtract (nat_lit 1) g8)) p10 
(oSet (xMove g9) p4 
(oSet (xMove g10) p5 
oEnd))))))) kRet))⟩
def q264 : OpdF := kC (.func (.func (nat_lit 176)) ⟨[]⟩ ⟨[]⟩)
def q265 : List Value := [(.int .i64 (.ofNat (nat_lit 0))), (.int .i64 (.ofNat (nat_lit 0))), (.int .i64 (.ofNat (nat_lit 0))), (.int .i64 (.ofNat (nat_lit 0))), (.int .i64 (.ofNat (nat_lit 0))), (.int .i64 (.ofNat (nat_lit 0))), (.int .i64 (.ofNat (nat_lit 0))), (.int .i64 (.ofNat (nat_lit 0))), (.int .i64 (.ofNat (nat_lit 0))), (.int .i64 (.ofNat (nat_lit 0))), (.int .i64 (.ofNat (nat_lit 0))), (.int .i64 (.ofNat (nat_lit 0))), (.int .i64 (.ofNat (nat_lit 0))), (.int .i64 (.ofNat (nat_lit 0))), (.int .i64 (.ofNat (nat_lit 0))), (.int .i64 (.ofNat (nat_lit 0))), (.int .i64 (.ofNat (nat_lit 0))), (.int .i64 (.ofNat (nat_lit 0))), (.int .i64 (.ofNat (nat_lit 0))), (.int .i64 (.ofNat (nat_lit 0))), (.int .i64 (.ofNat (nat_lit 0))), (.int .i64 (.ofNat (nat_lit 0))), (.int .i64 (.ofNat (nat_lit 0))), (.int .i64 (.ofNat (nat_lit 0))), (.int .i64 (.ofNat (nat_lit 0))), (.int .i64 (.ofNat (nat_lit 0))), (.int .i64 (.ofNat (nat_lit 0))), (.int .i64 (.ofNat (nat_lit 0))), (.int .i64 (.ofNat (nat_lit 0))), (.int .i64 (.ofNat (nat_lit 0))), (.int .i64 (.ofNat (nat_lit 0))), (.int .i64 (.ofNat (nat_lit 0))), (.int .i64 (.ofNat (nat_lit 0))), (.int .i64 (.ofNat (nat_lit 0))), (.int .i64 (.ofNat (nat_lit 0))), (.int .i64 (.ofNat (nat_lit 0))), (.int .i64 (.ofNat (nat_lit 0))), (.int .i64 (.ofNat (nat_lit 0))), (.int .i64 (.ofNat (nat_lit 0))), (.int .i64 (.ofNat (nat_lit 0))), (.int .i64 (.ofNat (nat_lit 0))), (.int .i64 (.ofNat (nat_lit 0))), (.int .i64 (.ofNat (nat_lit 0))), (.int .i64 (.ofNat (nat_lit 0))), (.int .i64 (.ofNat (nat_lit 0))), (.int .i64 (.ofNat (nat_lit 0))), (.int .i64 (.ofNat (nat_lit 0))), (.int .i64 (.ofNat (nat_lit 0))), (.int .i64 (.ofNat (nat_lit 0))), (.int .i64 (.ofNat (nat_lit 0))), (.int .i64 (.ofNat (nat_lit 0))), (.int .i64 (.ofNat (nat_lit 0))), (.int .i64 (.ofNat (nat_lit 0))), (.int .i64 (.ofNat (nat_lit 0))), (.int .i64 (.ofNat (nat_lit 0))), (.int .i64 (.ofNat (nat_lit 0))), (.int .i64 (.ofNat (nat_lit 0))), (.int .i64 (.ofNat (nat_lit 0))), (.int .i64 (.ofNat (nat_lit 0))), (.int .i64 (.ofNat (nat_lit 0)))]
def q266 : OpdF := kC (.func (.func (nat_lit 177)) ⟨[]⟩ ⟨[]⟩)
noncomputable def k128 : KFun := ⟨[rTmp (nat_lit 2) g2, rCellN (nat_lit 3) g3 (nat_lit 2)], (kSeq (oSet (xMove q12) p2 
(oSet (xTurn (tnAlloc q40)) p3 
oEnd)) (kSeq (kSeq (oSet (xMove g0) p15 
(oSet (xLook (lkLen .sl g15)) p16 
(oSet (xLook (lkBin .gtr g16 q84)) p17 
oEnd))) (kCond g17 (kSeq (oSet (xLook (lkBuild q40 [((nat_lit 0), (nat_lit 1), q7), ((nat_lit 1), (nat_lit 1), q84)])) p18 
(oSet (xMove q12) p2 
(oDo (xTurn (tnStore (nat_lit 2) g3 g18)) 
oEnd))) kRet) kSkip)) (kSeq (oSet (xMove g0) p19 
(oSet (xCall q59 [g19]) p20 
(oSet (xMove g20) p4 
oEnd))) (kSeq (oSet (xMove g4) p21 
(oSet (xCall q62 [g21, q79]) p22 
(oSet (xMove g22) p5 
oEnd))) (kSeq (kSeq (oSet (xMove g4) p23 
(oSet (xCall q112 [g23]) p24 
(oSet (xTurn (tnAlloc q40)) p6 
(oDo (xTurn (tnStore (nat_lit 2) g6 g24)) 
oEnd)))) (kSeq (oSet (xLook (lkFieldAddr (nat_lit 0) g6)) p25 
(oSet (xLook (lkLoad1 g25)) p26 
(oSet (xLook (lkEq true .int g26 q10)) p27 
oEnd))) (kCond g27 (kSeq (kDraw 
(dLook (nat_lit 0) [] [] (lkLoadN (nat_lit 2) g6) p28 
(dLook (nat_lit 1) [] [] (lkMove q12) p2 
(dTurn (nat_lit 2) [] [] true (xTurn (tnStore (nat_lit 2) g3 g28)) noDst (dEnd [(nat_lit 28), (nat_lit 2)]))))) kRet) kSkip))) (kSeq (oSet (xMove g4) p29 
(oSet (xCall q264 [g29]) p30 
(oSet (xMove g30) p7 
oEnd))) (kSeq (oSet (xTurn (tnAlloc q265)) p8 
oEnd) (kSeq (oSet (xLook (lkSliceArr (nat_lit 60) (nat_lit 1) g8 none (some q10) none)) p31 
(oSet (xMove g31) p9 
oEnd)) (kSeq (oSet (xMove q12) p10 
oEnd) (kSeq (kSeq (oSet (xMove g5) p32 
(oSet (xMove q10) p33 
oEnd)) (kBlock (nat_lit 0) (kLoop (kSeq (oSet (xLook (lkBin .lss g33 g32)) p34 
oEnd) (kSeq (kCond g34 kSkip (kExit (nat_lit 0))) (kSeq (kBlock (nat_lit 1) (kSeq (oSet (xMove g0) p36 
(oSet (xMove g7) p37 
(oSet (xCall q266 [g36, g37]) p38 
(oSet (xMove g38) p35 
(oSet (xLook (lkExtract (nat_lit 0) g35)) p39 
(oSet (xLook (lkExtract (nat_lit 1) g35)) p40 
(oSet (xLook (lkExtract (nat_lit 2) g35)) p41 
(oSet (xTurn (tnAlloc q34)) p11 
(oSet (xTurn (tnAlloc q40)) p13 
(oDo (xTurn (tnStore (nat_lit 6) g11 g39)) 
(oSet (xMove g40) p12 
(oDo (xTurn (tnStore (nat_lit 2) g13 g41)) 
oEnd)))))))))))) (kSeq (kSeq (oSet (xLook (lkFieldAddr (nat_lit 0) g13)) p42 
(oSet (xLook (lkLoad1 g42)) p43 
(oSet (xLook (lkEq true .int g43 q10)) p44 
oEnd))) (kCond g44 (kSeq (kDraw 
(dLook (nat_lit 0) [] [] (lkLoadN (nat_lit 2) g13) p45 
(dLook (nat_lit 1) [] [] (lkMove q12) p2 
(dTurn (nat_lit 2) [] [] true (xTurn (tnStore (nat_lit 2) g3 g45)) noDst (dEnd [(nat_lit 45), (nat_lit 2)]))))) kRet) kSkip)) (kSeq (oSet (xMove g9) p46 
(oSet (xMove g7) p47 
(oSet (xTurn (tnBuildSlice q9 [((nat_lit 0), (nat_lit 1), g47)] (nat_lit 1))) p48 
(oSet (xTurn (tnAppend (nat_lit 1) g46 g48)) p49 
(oSet (xMove g49) p9 
oEnd))))) (oSet (xMove g10) p50 
(oSet (xLook (lkLoadN (nat_lit 6) g11)) p51 
(oSet (xTurn (tnBuildSlice q34 [((nat_lit 0), (nat_lit 6), g51)] (nat_lit 1))) p52 
(oSet (xTurn (tnAppend (nat_lit 6) g50 g52)) p53 
(oSet (xMove g12) p54 
(oSet (xMove g53) p10 
(oSet (xMove g54) p7 
oEnd))))))))))) (oSet (xLook (lkBin .add g33 q16)) p55 
(oSet (xMove g55) p33 
oEnd)))))))) (kSeq (kSeq (oSet (xMove g7) p56 
(oSet (xMove g0) p57 
(oSet (xLook (lkLen .sl g57)) p58 
(oSet (xLook (lkBin .lss g56 g58)) p59 
oEnd)))) (kCond g59 (kSeq (oSet (xMove g7) p60 
(oSet (xLook (lkBuild q40 [((nat_lit 0), (nat_lit 1), q17), ((nat_lit 1), (nat_lit 1), g60)])) p61 
(oSet (xMove q12) p2 
(oDo (xTurn (tnStore (nat_lit 2) g3 g61)) 
oEnd)))) kRet) kSkip)) (kSeq (kSeq (oSet (xMove g10) p62 
(oSet (xCall q81 [g62]) p63 
(oSet (xMove g63) p14 
oEnd))) (kSeq (oSet (xMove g14) p64 
(oSet (xLook (lkBin .geq g64 q10)) p65 
oEnd)) (kCond g65 (kSeq (kDraw 
(dLook (nat_lit 0) [] [] (lkMove g9) p66 
(dLook (nat_lit 1) [] [] (lkMove g14) p67 
(dLook (nat_lit 2) [] [] (lkIxSl (nat_lit 1) g66 g67) p68 
(dLook (nat_lit 3) [] [] (lkLoad1 g68) p69 
(dLook (nat_lit 4) [] [] (lkBuild q40 [((nat_lit 0), (nat_lit 1), q19), ((nat_lit 1), (nat_lit 1), g69)]) p70 
(dLook (nat_lit 5) [] [] (lkMove q12) p2 
(dTurn (nat_lit 6) [] [] true (xTurn (tnStore (nat_lit 2) g3 g70)) noDst (dEnd [(nat_lit 66), (nat_lit 67), (nat_lit 68), (nat_lit 69), (nat_lit 70), (nat_lit 2)]))))))))) kRet) kSkip))) (kSeq (oSet (xMove g10) p71 
(oSet (xLook (lkBuild q40 [])) p72 
(oSet (xMove g71) p2 
(oDo (xTurn (tnStore (nat_lit 2) g3 g72)) 
oEnd)))) kRet)))))))))))))⟩
def q267 : OpdF := kC (.string ⟨⟨[99, 97, 110, 110, 111, 116, 32, 98, 101, 32, 110, 101, 103, 97, 116, 105, 118, 101]⟩⟩)
noncomputable def k129 : KFun := ⟨[rTmp (nat_lit 4) g4], (kSeq (oSet (xMove q12) p4 
oEnd) (kSeq (kSeq (oSet (xMove g1) p5 
(oSet (xLook (lkBin .lss g5 q10)) p6 
oEnd)) (kCond g6 (oSet (xLook (lkMkIface (nat_lit 9) q267)) p7 
(oDo (xPanic g7) 
oEnd)) kSkip)) (kSeq (kSeq (oSet (xMove g1) p8 
(oSet (xMove g0) p9 
(oSet (xLook (lkCap g9)) p10 
(oSet (xMove g0) p11 
(oSet (xLook (lkLen .sl g11)) p12 
(oSet (xLook (lkBin .sub g10 g12)) p13 
(oSet (xLook (lkBin .sub g8 g13)) p14 
(oSet (xMove g14) p1 
oEnd)))))))) (kSeq (oSet (xMove g1) p15 
(oSet (xLook (lkBin .gtr g15 q10)) p16 
oEnd)) (kCond g16 (oSet (xMove g0) p17 
(oSet (xMove g0) p18 
(oSet (xLook (lkCap g18)) p19 
(oSet (xLook (lkSliceSl (nat_lit 1) g17 none (some g19) none)) p20 
(oSet (xMove g1) p21 
(oSet (xTurn (tnAppendZ q77 g20 g21)) p22 
(oSet (xMove g0) p23 
(oSet (xLook (lkLen .sl g23)) p24 
(oSet (xLook (lkSliceSl (nat_lit 1) g22 none (some g24) none)) p25 
(oSet (xMove g25) p0 
oEnd)))))))))) kSkip))) (kSeq (oSet (xMove g0) p26 
(oSet (xMove g26) p4 
oEnd)) kRet))))⟩
def q268 : OpdF := kC (.int .i64 (.ofNat (nat_lit 200)))
def q269 : OpdF := kC (.func (.func (nat_lit 178)) ⟨[]⟩ ⟨[]⟩)
def q270 : OpdF := kC (.func (.func (nat_lit 179)) ⟨[]⟩ ⟨[]⟩)
def q271 : OpdF := kC (.func (.func (nat_lit 180)) ⟨[]⟩ ⟨[]⟩)
def q272 : OpdF := kC (.func (.func (nat_lit 181)) ⟨[]⟩ ⟨[]⟩)
def q273 : OpdF := kC (.func (.func (nat_lit 182)) ⟨[]⟩ ⟨[]⟩)
noncomputable def k130 : KFun := ⟨[rTmp (nat_lit 2) g2], (kSeq (oSet (xTurn (tnBox g0)) p1 
(oSet (xMove q10) p2 
oEnd)) (kSeq (kSeq (oSet (xLook (lkFieldAddr (nat_lit 2) g1)) p8 
(oSet (xLook (lkLoad1 g8)) p9 
(oSet (xLook (lkLen .sl g9)) p10 
(oSet (xLook (lkFieldAddr (nat_lit 3) g1)) p11 
(oSet (xLook (lkLoad1 g11)) p12 
(oSet (xLook (lkLen .sl g12)) p13 
(oSet (xLook (lkBin .add g10 g13)) p14 
(oSet (xLook (lkFieldAddr (nat_lit 4) g1)) p15 
(oSet (xLook (lkLoad1 g15)) p16 
(oSet (xLook (lkLen .sl g16)) p17 
(oSet (xLook (lkBin .add g14 g17)) p18 
(oSet (xLook (lkBin .gtr g18 q79)) p19 
oEnd)))))))))))) (kCond g19 (kSeq (oSet (xMove q7) p2 
oEnd) kRet) kSkip)) (kSeq (oSet (xLook (lkFieldAddr (nat_lit 0) g1)) p20 
(oSet (xLook (lkLoad1 g20)) p21 
(oSet (xLook (lkBin .geq g21 q10)) p22 
(oSet (xMove g22) p23 
(oSetIf (wantT g23) (xLook (lkFieldAddr (nat_lit 0) g1)) p24 
(oSetIf (wantT g23) (xLook (lkLoad1 g24)) p25 
(oSetIf (wantT g23) (xLook (lkBin .leq g25 q7)) p26 
(oSet (xLook (lkPick g23 g26 q0)) p27 
(oSet (xMove g27) p28 
(oSetIf (wantT g28) (xLook (lkFieldAddr (nat_lit 1) g1)) p29 
(oSetIf (wantT g28) (xLook (lkLoad1 g29)) p30 
(oSetIf (wantT g28) (xLook (lkBin .geq g30 q10)) p31 
(oSet (xLook (lkPick g28 g31 q0)) p32 
(oSet (xMove g32) p33 
(oSetIf (wantT g33) (xLook (lkFieldAddr (nat_lit 1) g1)) p34 
(oSetIf (wantT g33) (xLook (lkLoad1 g34)) p35 
(oSetIf (wantT g33) (xLook (lkBin .leq g35 q268)) p36 
(oSet (xLook (lkPick g33 g36 q0)) p37 
(oSet (xMove g37) p38 
(oSetIf (wantT g38) (xLook (lkFieldAddr (nat_lit 2) g1)) p39 
(oSetIf (wantT g38) (xLook (lkLoad1 g39)) p40 
(oSetIf (wantT g38) (xCall q269 [g40]) p41 
(oSet (xLook (lkPick g38 g41 q0)) p42 
(oSet (xMove g42) p43 
(oSetIf (wantT g43) (xLook (lkLoadN (nat_lit 5) g1)) p44 
(oSetIf (wantT g43) (xCall q270 [g44]) p45 
(oSetIf (wantT g43) (xCall q269 [g45]) p46 
(oSet (xLook (lkPick g43 g46 q0)) p47 
(oSet (xMove g47) p48 
(oSetIf (wantT g48) (xLook (lkFieldAddr (nat_lit 3) g1)) p49 
(oSetIf (wantT g48) (xLook (lkLoad1 g49)) p50 
(oSetIf (wantT g48) (xCall q271 [g50]) p51 
(oSet (xLook (lkPick g48 g51 q0)) p52 
(oSet (xMove g52) p3 
oEnd)))))))))))))))))))))))))))))))))) (kSeq (kSeq (oSet (xLook (lkFieldAddr (nat_lit 2) g1)) p53 
(oSet (xLook (lkLoad1 g53)) p54 
(oSet (xLook (lkLen .sl g54)) p55 
(oSet (xMove q10) p56 
oEnd)))) (kBlock (nat_lit 0) (kLoop (kSeq (oSet (xLook (lkBin .lss g56 g55)) p57 
oEnd) (kSeq (kCond g57 kSkip (kExit (nat_lit 0))) (kSeq (kBlock (nat_lit 1) (kSeq (oSet (xLook (lkIxSl (nat_lit 1) g54 g56)) p58 
(oSet (xLook (lkLoad1 g58)) p59 
(oSet (xMove g59) p5 
oEnd))) (oSet (xMove g3) p60 
(oSet (xMove g60) p61 
(oSetIf (wantT g61) (xMove g5) p62 
(oSetIf (wantT g61) (xCall q272 [g62]) p63 
(oSet (xLook (lkPick g61 g63 q0)) p64 
(oSet (xMove g64) p3 
oEnd)))))))) (oSet (xLook (lkBin .add g56 q16)) p65 
(oSet (xMove g65) p56 
oEnd)))))))) (kSeq (kSeq (oSet (xLook (lkFieldAddr (nat_lit 4) g1)) p66 
(oSet (xLook (lkLoad1 g66)) p67 
(oSet (xLook (lkLen .sl g67)) p68 
(oSet (xMove q10) p69 
oEnd)))) (kBlock (nat_lit 2) (kLoop (kSeq (oSet (xLook (lkBin .lss g69 g68)) p70 
oEnd) (kSeq (kCond g70 kSkip (kExit (nat_lit 2))) (kSeq (kBlock (nat_lit 3) (kSeq (oSet (xLook (lkIxSl (nat_lit 3) g67 g69)) p71 
(oSet (xLook (lkLoadN (nat_lit 3) g71)) p72 
(oSet (xTurn (tnAlloc q69)) p7 
(oDo (xTurn (tnStore (nat_lit 3) g7 g72)) 
oEnd)))) (oSet (xMove g3) p73 
(oSet (xMove g73) p74 
(oSetIf (wantT g74) (xLook (lkLoadN (nat_lit 3) g7)) p75 
(oSetIf (wantT g74) (xCall q273 [g75]) p76 
(oSet (xLook (lkPick g74 g76 q0)) p77 
(oSet (xMove g77) p3 
oEnd)))))))) (oSet (xLook (lkBin .add g69 q16)) p78 
(oSet (xMove g78) p69 
oEnd)))))))) (kSeq (kSeq (oSet (xMove g3) p79 
(oSet (xLook (lkUn .not g79)) p80 
(oSet (xMove g80) p81 
(oSetIf (wantF g81) (xLook (lkFieldAddr (nat_lit 0) g1)) p82 
(oSetIf (wantF g81) (xLook (lkLoad1 g82)) p83 
(oSetIf (wantF g81) (xLook (lkEq true .int g83 q10)) p84 
(oSetIf (wantF g81) (xMove g84) p85 
(oSetIf (wantT g85) (xLook (lkFieldAddr (nat_lit 4) g1)) p86 
(oSetIf (wantT g85) (xLook (lkLoad1 g86)) p87 
(oSetIf (wantT g85) (xLook (lkLen .sl g87)) p88 
(oSetIf (wantT g85) (xLook (lkBin .gtr g88 q10)) p89 
(oSetIf (wantF g81) (xLook (lkPick g85 g89 q0)) p90 
(oSet (xLook (lkPick g81 q30 g90)) p91 
oEnd))))))))))))) (kCond g91 (kSeq (oSet (xMove q18) p2 
oEnd) kRet) kSkip)) (kSeq (oSet (xMove q10) p2 
oEnd) kRet)))))))⟩
def q274 : OpdF := kC (.func (.func (nat_lit 132)) ⟨[]⟩ ⟨[]⟩)
noncomputable def k131 : KFun := ⟨[rCellN (nat_lit 4) g4 (nat_lit 5)], (kSeq (oSet (xTurn (tnAlloc q205)) p4 
oEnd) (kSeq (oSet (xLook (lkFieldAddr (nat_lit 1) g1)) p7 
(oSet (xLook (lkLoad1 g7)) p8 
(oSet (xLook (lkFieldAddr (nat_lit 0) g1)) p9 
(oSet (xLook (lkLoad1 g9)) p10 
(oSet (xLook (lkLen .sl g10)) p11 
(oSet (xTurn (tnBuildSlice q9 [((nat_lit 0), (nat_lit 1), g11)] (nat_lit 1))) p12 
(oSet (xTurn (tnAppend (nat_lit 1) g8 g12)) p13 
(oSet (xLook (lkFieldAddr (nat_lit 1) g1)) p14 
(oDo (xTurn (tnStore (nat_lit 1) g14 g13)) 
oEnd))))))))) (kSeq (oSet (xMove g0) p16 
(oSet (xLook (lkLoad1 g2)) p17 
(oSet (xNil g17) p18 
(oSet (xLook (lkFieldAddr (nat_lit 2) g18)) p19 
(oSet (xLook (lkFieldAddr (nat_lit 0) g19)) p20 
(oSet (xLook (lkLoad1 g20)) p21 
(oSet (xCall q274 [g16, g21]) p22 
(oSet (xMove g22) p15 
(oSet (xLook (lkExtract (nat_lit 0) g15)) p23 
(oSet (xLook (lkExtract (nat_lit 1) g15)) p24 
(oSet (xTurn (tnAlloc q205)) p5 
(oDo (xTurn (tnStore (nat_lit 5) g5 g23)) 
(oSet (xMove g24) p6 
oEnd))))))))))))) (kSeq (oSet (xLook (lkLoadN (nat_lit 5) g5)) p25 
(oDo (xTurn (tnStore (nat_lit 5) g4 g25)) 
oEnd)) kRet))))⟩
def q275 : List Value := [(.string ⟨⟨[]⟩⟩), (.string ⟨⟨[]⟩⟩), (.string ⟨⟨[]⟩⟩), (.string ⟨⟨[]⟩⟩), (.string ⟨⟨[]⟩⟩), (.string ⟨⟨[]⟩⟩), (.string ⟨⟨[]⟩⟩), (.string ⟨⟨[]⟩⟩), (.map none), (.slice none (nat_lit 0) (nat_lit 0)), (.int .i64 (.ofNat (nat_lit 0))), (.int .i64 (.ofNat (nat_lit 0))), (.int .i64 (.ofNat (nat_lit 0))), (.slice none (nat_lit 0) (nat_lit 0)), (.slice none (nat_lit 0) (nat_lit 0)), (.slice none (nat_lit 0) (nat_lit 0))]
def q276 : OpdF := kC (.func (.func (nat_lit 183)) ⟨[]⟩ ⟨[]⟩)
def q277 : OpdF := kC (.func (.func (nat_lit 185)) ⟨[]⟩ ⟨[]⟩)
def q278 : OpdF := kC (.func (.func (nat_lit 184)) ⟨[]⟩ ⟨[]⟩)
def q279 : OpdF := kC (.func (.func (nat_lit 186)) ⟨[]⟩ ⟨[]⟩)
noncomputable def k132 : KFun := ⟨[rCellN (nat_lit 4) g4 (nat_lit 5), rTmp (nat_lit 5) g5], (kSeq (oSet (xTurn (tnAlloc q205)) p4 
(oSet (xMove q10) p5 
oEnd)) (kSeq (kSeq (oSet (xMove g0) p11 
(oSet (xCall q47 [g11]) p12 
(oSet (xMove g12) p10 
(oSet (xLook (lkExtract (nat_lit 0) g10)) p13 
(oSet (xLook (lkExtract (nat_lit 1) g10)) p14 
(oSet (xMove g13) p6 
(oSet (xMove g14) p7 
oEnd))))))) (kSeq (oSet (xMove g6) p15 
(oSet (xLook (lkEq true .int g15 q10)) p16 
oEnd)) (kCond g16 (kSeq (oSet (xLook (lkBuild q205 [])) p17 
(oSet (xMove g6) p18 
(oDo (xTurn (tnStore (nat_lit 5) g4 g17)) 
(oSet (xMove g18) p5 
oEnd)))) kRet) kSkip))) (kSeq (kSeq (oSet (xMove g1) p19 
(oSet (xCall q223 [g19]) p20 
(oSet (xMove g20) p8 
oEnd))) (kSeq (oSet (xMove g8) p21 
(oSet (xLook (lkEq true .int g21 q10)) p22 
oEnd)) (kCond g22 (kSeq (oSet (xLook (lkBuild q205 [])) p23 
(oSet (xMove g8) p24 
(oDo (xTurn (tnStore (nat_lit 5) g4 g23)) 
(oSet (xMove g24) p5 
oEnd)))) kRet) kSkip))) (kSeq (oSet (xTurn (tnMkMap (.one .str))) p25 
(oSet (xLook (lkBuild q233 [((nat_lit 0), (nat_lit 1), g25)])) p26 
(oSet (xMove g1) p27 
(oSet (xLook (lkBuild q275 [((nat_lit 8), (nat_lit 1), g26), ((nat_lit 9), (nat_lit 1), g27)])) p28 
(oSet (xTurn (tnBox g28)) p29 
(oSet (xMove g29) p9 
oEnd)))))) (kSeq (oSet (xMove g9) p30 
(oSet (xMove g0) p31 
(oSet (xCall q276 [g30, g31]) p32 
oEnd))) (kSeq (kDraw 
(dLook (nat_lit 0) [] [] (lkMove g9) p33 
(dLook (nat_lit 1) [] [] (lkMove g9) p34 
(dLook (nat_lit 2) [] [] (lkMove g9) p35 
(dTurn (nat_lit 3) [] [] false (xNil g35) p36 
(dLook (nat_lit 4) [] [] (lkFieldAddr (nat_lit 11) g36) p37 
(dLook (nat_lit 5) [] [] (lkFieldAddr (nat_lit 2) g37) p38 
(dLook (nat_lit 6) [] [] (lkLoad1 g38) p39 
(dTurn (nat_lit 7) [] [] true (xCall q278 [g39]) p40 
(dLook (nat_lit 8) [] [] (lkMove g9) p41 
(dTurn (nat_lit 9) [] [] false (xNil g41) p42 
(dLook (nat_lit 10) [] [] (lkFieldAddr (nat_lit 11) g42) p43 
(dLook (nat_lit 11) [] [] (lkFieldAddr (nat_lit 3) g43) p44 
(dLook (nat_lit 12) [(nat_lit 7)] [] (lkLoad1 g44) p45 
(dTurn (nat_lit 13) [] [(nat_lit 7)] true (xCall q277 [g45]) p46 
(dTurn (nat_lit 14) [] [(nat_lit 7), (nat_lit 13)] false (xNil g33) p47 
(dLook (nat_lit 15) [] [(nat_lit 7), (nat_lit 13)] (lkFieldAddr (nat_lit 11) g47) p48 
(dLook (nat_lit 16) [] [(nat_lit 7), (nat_lit 13)] (lkFieldAddr (nat_lit 2) g48) p49 
(dTurn (nat_lit 17) [] [(nat_lit 7), (nat_lit 13)] true (xTurn (tnStore (nat_lit 1) g49 g40)) noDst 
(dTurn (nat_lit 18) [] [(nat_lit 7), (nat_lit 13), (nat_lit 17)] false (xNil g34) p50 
(dLook (nat_lit 19) [] [(nat_lit 7), (nat_lit 13), (nat_lit 17)] (lkFieldAddr (nat_lit 11) g50) p51 
(dLook (nat_lit 20) [] [(nat_lit 7), (nat_lit 13), (nat_lit 17)] (lkFieldAddr (nat_lit 3) g51) p52 
(dTurn (nat_lit 21) [] [(nat_lit 7), (nat_lit 13), (nat_lit 17)] true (xTurn (tnStore (nat_lit 1) g52 g46)) noDst (dEnd [(nat_lit 33), (nat_lit 34), (nat_lit 35), (nat_lit 36), (nat_lit 37), (nat_lit 38), (nat_lit 39), (nat_lit 40), (nat_lit 41), (nat_lit 42), (nat_lit 43), (nat_lit 44), (nat_lit 45), (nat_lit 46), (nat_lit 47), (nat_lit 48), (nat_lit 49), (nat_lit 50), (nat_lit 51), (nat_lit 52)])))))))))))))))))))))))) (kSeq (kSeq (oSet (xMove g9) p53 
(oSet (xNil g53) p54 
(oSet (xLook (lkFieldAddr (nat_lit 11) g54)) p55 
(oSet (xLook (lkFieldAddr (nat_lit 0) g55)) p56 
(oSet (xLook (lkLoad1 g56)) p57 
(oSet (xLook (lkEq false .int g57 q10)) p58 
oEnd)))))) (kCond g58 (oSet (xMove g9) p59 
(oSet (xMove g9) p60 
(oSet (xNil g60) p61 
(oSet (xLook (lkFieldAddr (nat_lit 8) g61)) p62 
(oSet (xCall q279 [g62]) p63 
(oSet (xNil g59) p64 
(oSet (xLook (lkFieldAddr (nat_lit 11) g64)) p65 
(oSet (xLook (lkFieldAddr (nat_lit 4) g65)) p66 
(oDo (xTurn (tnStore (nat_lit 1) g66 g63)) 
oEnd))))))))) kSkip)) (kSeq (oSet (xMove g9) p67 
(oSet (xNil g67) p68 
(oSet (xLook (lkFieldAddr (nat_lit 11) g68)) p69 
(oSet (xLook (lkLoadN (nat_lit 5) g69)) p70 
(oDo (xTurn (tnStore (nat_lit 5) g4 g70)) 
(oSet (xMove q10) p5 
oEnd)))))) kRet))))))))⟩
def q280 : OpdF := kC (.func (.func (nat_lit 187)) ⟨[]⟩ ⟨[]⟩)
noncomputable def k133 : KFun := ⟨[], (kSeq (oSet (xTurn (tnBox g1)) p3 
oEnd) (kSeq (oSet (xMove g0) p4 
(oSet (xNil g4) p5 
(oSet (xLook (lkFieldAddr (nat_lit 1) g5)) p6 
(oSet (xLook (lkLoad1 g6)) p7 
(oSet (xLook (lkEq false .int g7 q10)) p8 
oEnd))))) (kCond g8 (kDraw 
(dLook (nat_lit 0) [] [] (lkMove g0) p10 
(dLook (nat_lit 1) [] [] (lkMove g0) p11 
(dLook (nat_lit 2) [] [] (lkMove g0) p12 
(dTurn (nat_lit 3) [] [] false (xNil g12) p13 
(dLook (nat_lit 4) [] [] (lkFieldAddr (nat_lit 0) g13) p14 
(dLook (nat_lit 5) [] [] (lkLoad1 g14) p15 
(dLook (nat_lit 6) [] [] (lkFieldAddr (nat_lit 4) g3) p16 
(dLook (nat_lit 7) [] [] (lkLoad1 g16) p17 
(dTurn (nat_lit 8) [] [] true (xCall q280 [g15, g17]) p18 
(dLook (nat_lit 9) [] [(nat_lit 8)] (lkMove g18) p9 
(dLook (nat_lit 10) [] [(nat_lit 8)] (lkExtract (nat_lit 0) g9) p19 
(dLook (nat_lit 11) [] [(nat_lit 8)] (lkExtract (nat_lit 1) g9) p20 
(dTurn (nat_lit 12) [] [(nat_lit 8)] false (xNil g10) p21 
(dLook (nat_lit 13) [] [(nat_lit 8)] (lkFieldAddr (nat_lit 0) g21) p22 
(dTurn (nat_lit 14) [] [(nat_lit 8)] true (xTurn (tnStore (nat_lit 1) g22 g19)) noDst 
(dTurn (nat_lit 15) [] [(nat_lit 8), (nat_lit 14)] false (xNil g11) p23 
(dLook (nat_lit 16) [] [(nat_lit 8), (nat_lit 14)] (lkFieldAddr (nat_lit 1) g23) p24 
(dTurn (nat_lit 17) [] [(nat_lit 8), (nat_lit 14)] true (xTurn (tnStore (nat_lit 1) g24 g20)) noDst (dEnd [(nat_lit 10), (nat_lit 11), (nat_lit 12), (nat_lit 13), (nat_lit 14), (nat_lit 15), (nat_lit 16), (nat_lit 17), (nat_lit 18), (nat_lit 9), (nat_lit 19), (nat_lit 20), (nat_lit 21), (nat_lit 22), (nat_lit 23), (nat_lit 24)])))))))))))))))))))) kSkip)))⟩
def q281 : OpdF := kC (.func (.func (nat_lit 190)) ⟨[]⟩ ⟨[]⟩)
def q282 : OpdF := kC (.func (.func (nat_lit 189)) ⟨[]⟩ ⟨[]⟩)
def q283 : OpdF := kC (.func (.func (nat_lit 188)) ⟨[]⟩ ⟨[]⟩)
noncomputable def k134 : KFun := ⟨[rCellN (nat_lit 2) g2 (nat_lit 5)], (kSeq (oSet (xTurn (tnBox g0)) p1 
(oSet (xTurn (tnAlloc q205)) p2 
oEnd)) (kSeq (kDraw 
(dLook (nat_lit 0) [] [] (lkFieldAddr (nat_lit 2) g1) p3 
(dLook (nat_lit 1) [] [] (lkLoad1 g3) p4 
(dTurn (nat_lit 2) [] [] true (xCall q283 [g4]) p5 
(dLook (nat_lit 3) [] [] (lkFieldAddr (nat_lit 3) g1) p6 
(dLook (nat_lit 4) [(nat_lit 2)] [] (lkLoad1 g6) p7 
(dTurn (nat_lit 5) [] [(nat_lit 2)] true (xCall q282 [g7]) p8 
(dLook (nat_lit 6) [] [] (lkFieldAddr (nat_lit 4) g1) p9 
(dLook (nat_lit 7) [(nat_lit 2), (nat_lit 5)] [] (lkLoad1 g9) p10 
(dTurn (nat_lit 8) [] [(nat_lit 2), (nat_lit 5)] true (xCall q281 [g10]) p11 
(dLook (nat_lit 9) [] [(nat_lit 2)] (lkFieldAddr (nat_lit 2) g1) p12 
(dTurn (nat_lit 10) [] [(nat_lit 2), (nat_lit 5), (nat_lit 8)] true (xTurn (tnStore (nat_lit 1) g12 g5)) noDst 
(dLook (nat_lit 11) [] [(nat_lit 2), (nat_lit 5), (nat_lit 8), (nat_lit 10)] (lkFieldAddr (nat_lit 3) g1) p13 
(dTurn (nat_lit 12) [] [(nat_lit 2), (nat_lit 5), (nat_lit 8), (nat_lit 10)] true (xTurn (tnStore (nat_lit 1) g13 g8)) noDst 
(dLook (nat_lit 13) [] [(nat_lit 2), (nat_lit 5), (nat_lit 8), (nat_lit 10), (nat_lit 12)] (lkFieldAddr (nat_lit 4) g1) p14 
(dTurn (nat_lit 14) [] [(nat_lit 2), (nat_lit 5), (nat_lit 8), (nat_lit 10), (nat_lit 12)] true (xTurn (tnStore (nat_lit 1) g14 g11)) noDst (dEnd [(nat_lit 3), (nat_lit 4), (nat_lit 5), (nat_lit 6), (nat_lit 7), (nat_lit 8), (nat_lit 9), (nat_lit 10), (nat_lit 11), (nat_lit 12), (nat_lit 13), (nat_lit 14)]))))))))))))))))) (kSeq (oSet (xLook (lkLoadN (nat_lit 5) g1)) p15 
(oDo (xTurn (tnStore (nat_lit 5) g2 g15)) 
oEnd)) kRet)))⟩
def q284 : OpdF := kC (.func (.func (nat_lit 191)) ⟨[]⟩ ⟨[]⟩)
def q285 : OpdF := kC (.func (.func (nat_lit 192)) ⟨[]⟩ ⟨[]⟩)
noncomputable def k135 : KFun := ⟨[rCellN (nat_lit 6) g6 (nat_lit 5)], (kSeq (oSet (xTurn (tnBox g2)) p5 
(oSet (xTurn (tnAlloc q205)) p6 
oEnd)) (kSeq (oSet (xLook (lkLoadN (nat_lit 5) g5)) p8 
(oSet (xTurn (tnAlloc q205)) p7 
(oDo (xTurn (tnStore (nat_lit 5) g7 g8)) 
oEnd))) (kSeq (kSeq (kDraw 
(dLook (nat_lit 0) [] [] (lkLoadN (nat_lit 5) g5) p9 
(dLook (nat_lit 1) [] [] (lkMove g0) p10 
(dTurn (nat_lit 2) [] [] false (xNil g10) p11 
(dLook (nat_lit 3) [] [] (lkFieldAddr (nat_lit 0) g11) p12 
(dLook (nat_lit 4) [] [] (lkFieldAddr (nat_lit 0) g12) p13 
(dLook (nat_lit 5) [] [] (lkLoad1 g13) p14 
(dLook (nat_lit 6) [] [] (lkMove g0) p15 
(dTurn (nat_lit 7) [] [] false (xNil g15) p16 
(dLook (nat_lit 8) [] [] (lkFieldAddr (nat_lit 2) g16) p17 
(dLook (nat_lit 9) [] [] (lkFieldAddr (nat_lit 0) g17) p18 
(dLook (nat_lit 10) [] [] (lkLoad1 g18) p19 
(dTurn (nat_lit 11) [(nat_lit 0)] [] true (xCall q285 [g14, g19]) p20 
(dTurn (nat_lit 12) [] [(nat_lit 11)] true (xCall q284 [g9, g20]) p21 (dEnd [(nat_lit 9), (nat_lit 10), (nat_lit 11), (nat_lit 12), (nat_lit 13), (nat_lit 14), (nat_lit 15), (nat_lit 16), (nat_lit 17), (nat_lit 18), (nat_lit 19), (nat_lit 20), (nat_lit 21)]))))))))))))))) (kCond g21 (oSet (xMove g0) p22 
(oSet (xNil g22) p23 
(oSet (xLook (lkFieldAddr (nat_lit 4) g23)) p24 
(oSet (xLook (lkLoad1 g24)) p25 
(oSet (xMove g1) p26 
(oSet (xCall g25 [g26]) p27 
(oDo (xTurn (tnStore (nat_lit 5) g7 g27)) 
oEnd))))))) kSkip)) (kSeq (kDraw 
(dLook (nat_lit 0) [] [] (lkMove g0) p28 
(dTurn (nat_lit 1) [] [] false (xNil g28) p29 
(dLook (nat_lit 2) [] [] (lkFieldAddr (nat_lit 0) g29) p30 
(dLook (nat_lit 3) [] [] (lkLoadN (nat_lit 5) g5) p31 
(dTurn (nat_lit 4) [] [] true (xCall q209 [g30, g31]) p32 (dEnd [(nat_lit 28), (nat_lit 29), (nat_lit 30), (nat_lit 31), (nat_lit 32)]))))))) (kSeq (kDraw 
(dLook (nat_lit 0) [] [] (lkMove g0) p33 
(dTurn (nat_lit 1) [] [] false (xNil g33) p34 
(dLook (nat_lit 2) [] [] (lkFieldAddr (nat_lit 2) g34) p35 
(dLook (nat_lit 3) [] [] (lkLoadN (nat_lit 5) g7) p36 
(dTurn (nat_lit 4) [] [] true (xCall q209 [g35, g36]) p37 (dEnd [(nat_lit 33), (nat_lit 34), (nat_lit 35), (nat_lit 36), (nat_lit 37)]))))))) (kSeq (oSet (xLook (lkLoadN (nat_lit 5) g7)) p38 
(oDo (xTurn (tnStore (nat_lit 5) g6 g38)) 
oEnd)) kRet))))))⟩
noncomputable def k136 : KFun := ⟨[rTmp (nat_lit 2) g2], (kSeq (oSet (xMove q10) p2 
oEnd) (kSeq (kDraw 
(dLook (nat_lit 0) [] [] (lkMove g0) p3 
(dTurn (nat_lit 1) [] [] false (xNil g3) p4 
(dLook (nat_lit 2) [] [] (lkFieldAddr (nat_lit 0) g4) p5 
(dLook (nat_lit 3) [] [] (lkFieldAddr (nat_lit 1) g5) p6 
(dLook (nat_lit 4) [] [] (lkLoad1 g6) p7 
(dLook (nat_lit 5) [] [] (lkMove g0) p8 
(dTurn (nat_lit 6) [] [] false (xNil g8) p9 
(dLook (nat_lit 7) [] [] (lkFieldAddr (nat_lit 2) g9) p10 
(dLook (nat_lit 8) [] [] (lkFieldAddr (nat_lit 1) g10) p11 
(dLook (nat_lit 9) [] [] (lkLoad1 g11) p12 
(dLook (nat_lit 10) [] [] (lkMax g7 [g12]) p13 
(dLook (nat_lit 11) [] [] (lkMove g13) p2 (dEnd [(nat_lit 3), (nat_lit 4), (nat_lit 5), (nat_lit 6), (nat_lit 7), (nat_lit 8), (nat_lit 9), (nat_lit 10), (nat_lit 11), (nat_lit 12), (nat_lit 13), (nat_lit 2)])))))))))))))) kRet))⟩
def q286 : OpdF := kC (.func (.func (nat_lit 193)) ⟨[]⟩ ⟨[]⟩)
noncomputable def k137 : KFun := ⟨[rTmp (nat_lit 2) g2, rTmp (nat_lit 3) g3], (kSeq (oSet (xMove q12) p2 
(oSet (xMove q10) p3 
oEnd)) (kSeq (oSet (xMove g0) p8 
(oSet (xCall q286 [q12, g8]) p9 
(oSet (xMove g9) p7 
(oSet (xLook (lkExtract (nat_lit 0) g7)) p10 
(oSet (xLook (lkExtract (nat_lit 1) g7)) p11 
(oSet (xLook (lkExtract (nat_lit 2) g7)) p12 
(oSet (xMove g10) p4 
(oSet (xMove g11) p5 
(oSet (xMove g12) p6 
oEnd))))))))) (kSeq (oSet (xMove g4) p13 
(oSet (xMove g6) p14 
(oSet (xMove g13) p2 
(oSet (xMove g14) p3 
oEnd)))) kRet)))⟩
noncomputable def k138 : KFun := ⟨[rTmp (nat_lit 2) g2], (kSeq (oSet (xMove q10) p2 
oEnd) (kSeq (kSeq (oSet (xMove g0) p7 
(oSet (xLook (lkLen .sl g7)) p8 
(oSet (xLook (lkBin .gtr g8 q76)) p9 
oEnd))) (kCond g9 (kSeq (oSet (xMove q7) p2 
oEnd) kRet) kSkip)) (kSeq (kSeq (oSet (xMove g0) p10 
(oSet (xLook (lkLen .sl g10)) p11 
(oSet (xMove q10) p12 
oEnd))) (kBlock (nat_lit 0) (kLoop (kSeq (oSet (xLook (lkBin .lss g12 g11)) p13 
oEnd) (kSeq (kCond g13 kSkip (kExit (nat_lit 0))) (kSeq (kBlock (nat_lit 1) (kSeq (oSet (xLook (lkIxSl (nat_lit 1) g10 g12)) p14 
(oSet (xLook (lkLoad1 g14)) p15 
(oSet (xMove g15) p4 
oEnd))) (kSeq (oSet (xMove g4) p17 
(oSet (xCall q47 [g17]) p18 
(oSet (xMove g18) p16 
(oSet (xLook (lkExtract (nat_lit 0) g16)) p19 
(oSet (xLook (lkExtract (nat_lit 1) g16)) p20 
(oSet (xMove g19) p5 
(oSet (xMove g20) p6 
oEnd))))))) (kSeq (oSet (xMove g5) p21 
(oSet (xLook (lkEq true .int g21 q10)) p22 
oEnd)) (kCond g22 (kSeq (oSet (xMove g5) p23 
(oSet (xMove g23) p2 
oEnd)) kRet) kSkip))))) (oSet (xLook (lkBin .add g12 q16)) p24 
(oSet (xMove g24) p12 
oEnd)))))))) (kSeq (oSet (xMove q10) p2 
oEnd) kRet))))⟩
noncomputable def k139 : KFun := ⟨[rTmp (nat_lit 2) g2], (kSeq (oSet (xMove q12) p2 
oEnd) (kSeq (kSeq (oSet (xMove g0) p4 
(oSet (xLook (lkLen .sl g4)) p5 
(oSet (xMove q10) p6 
oEnd))) (kBlock (nat_lit 0) (kLoop (kSeq (oSet (xLook (lkBin .lss g6 g5)) p7 
oEnd) (kSeq (kCond g7 kSkip (kExit (nat_lit 0))) (kSeq (kBlock (nat_lit 1) (kSeq (oSet (xMove g6) p8 
(oSet (xMove g8) p3 
oEnd)) (oSet (xMove g0) p9 
(oSet (xMove g3) p10 
(oSet (xMove g0) p11 
(oSet (xMove g3) p12 
(oSet (xLook (lkIxSl (nat_lit 1) g11 g12)) p13 
(oSet (xLook (lkLoad1 g13)) p14 
(oSet (xCall q78 [g14]) p15 
(oSet (xLook (lkIxSl (nat_lit 1) g9 g10)) p16 
(oDo (xTurn (tnStore (nat_lit 1) g16 g15)) 
oEnd))))))))))) (oSet (xLook (lkBin .add g6 q16)) p17 
(oSet (xMove g17) p6 
oEnd)))))))) (kSeq (oSet (xMove g0) p18 
(oSet (xMove g18) p2 
oEnd)) kRet)))⟩
noncomputable def k142 : KFun := ⟨[rTmp (nat_lit 6) g6], (kSeq (oSet (xMove q12) p6 
oEnd) (kSeq (oSet (xMove g0) p8 
(oSet (xMove g1) p9 
(oSet (xMove g2) p10 
(oSet (xMove g0) p11 
(oSet (xLook (lkLen .sl g11)) p12 
(oSet (xLook (lkSliceSl (nat_lit 2) g8 (some g9) (some g10) (some g12))) p13 
oEnd)))))) (kSeq (kSeq (oSet (xMove g1) p14 
(oSet (xMove g2) p15 
(oSet (xLook (lkEq false .int g14 g15)) p16 
oEnd))) (kCond g16 (kSeq (oSet (xMove g0) p17 
(oSet (xMove g17) p6 
oEnd)) kRet) kSkip)) (kSeq (oSet (xMove g0) p18 
(oSet (xLook (lkLen .sl g18)) p19 
(oSet (xMove g19) p7 
oEnd))) (kSeq (kDraw 
(dLook (nat_lit 0) [] [] (lkMove g0) p20 
(dLook (nat_lit 1) [] [] (lkMove g1) p21 
(dLook (nat_lit 2) [] [] (lkSliceSl (nat_lit 2) g20 none (some g21) none) p22 
(dLook (nat_lit 3) [] [] (lkMove g0) p23 
(dLook (nat_lit 4) [] [] (lkMove g2) p24 
(dLook (nat_lit 5) [] [] (lkSliceSl (nat_lit 2) g23 (some g24) none none) p25 
(dTurn (nat_lit 6) [] [] true (xTurn (tnAppend (nat_lit 2) g22 g25)) p26 
(dLook (nat_lit 7) [] [(nat_lit 6)] (lkMove g26) p0 (dEnd [(nat_lit 20), (nat_lit 21), (nat_lit 22), (nat_lit 23), (nat_lit 24), (nat_lit 25), (nat_lit 26), (nat_lit 0)])))))))))) (kSeq (oSet (xMove g0) p27 
(oSet (xMove g0) p28 
(oSet (xLook (lkLen .sl g28)) p29 
(oSet (xMove g7) p30 
(oSet (xLook (lkSliceSl (nat_lit 2) g27 (some g29) (some g30) none)) p31 
(oDo (xTurn (tnClear q24 g31)) 
oEnd)))))) (kSeq (oSet (xMove g0) p32 
(oSet (xMove g32) p6 
oEnd)) kRet)))))))⟩
noncomputable def k143 : KFun := ⟨[rTmp (nat_lit 2) g2], (kSeq (oSet (xMove q12) p2 
oEnd) (kSeq (kSeq (oSet (xMove g0) p3 
(oSet (xLook (lkEq false .slice g3 q12)) p4 
oEnd)) (kCond g4 (kSeq (oSet (xMove q12) p2 
oEnd) kRet) kSkip)) (kSeq (oSet (xTurn (tnBuildSlice [] [] (nat_lit 0))) p5 
(oSet (xMove g0) p6 
(oSet (xTurn (tnAppend (nat_lit 2) g5 g6)) p7 
(oSet (xMove g7) p2 
oEnd)))) kRet)))⟩
noncomputable def k145 : KFun := ⟨[rTmp (nat_lit 4) g4, rTmp (nat_lit 5) g5], (kSeq (oSet (xMove q33) p4 
(oSet (xMove q0) p5 
oEnd)) (kSeq (kSeq (oSet (xMove g0) p8 
(oSet (xCall q223 [g8]) p9 
(oSet (xLook (lkEq true .int g9 q10)) p10 
oEnd))) (kCond g10 (kSeq (oSet (xMove q33) p4 
(oSet (xMove q0) p5 
oEnd)) kRet) kSkip)) (kSeq (oSet (xMove g0) p12 
(oSet (xMove g1) p13 
(oSet (xCall q224 [g12, g13]) p14 
(oSet (xMove g14) p11 
(oSet (xLook (lkExtract (nat_lit 0) g11)) p15 
(oSet (xLook (lkExtract (nat_lit 1) g11)) p16 
(oSet (xMove g15) p6 
(oSet (xMove g16) p7 
oEnd)))))))) (kSeq (kSeq (oSet (xMove g7) p17 
(oSet (xLook (lkUn .not g17)) p18 
oEnd)) (kCond g18 (kSeq (oSet (xMove q33) p4 
(oSet (xMove q0) p5 
oEnd)) kRet) kSkip)) (kSeq (oSet (xMove g0) p19 
(oSet (xMove g6) p20 
(oSet (xLook (lkIxSl (nat_lit 2) g19 g20)) p21 
(oSet (xLook (lkFieldAddr (nat_lit 1) g21)) p22 
(oSet (xLook (lkLoad1 g22)) p23 
(oSet (xMove g23) p4 
(oSet (xMove q30) p5 
oEnd))))))) kRet)))))⟩
noncomputable def k146 : KFun := ⟨[rTmp (nat_lit 4) g4, rTmp (nat_lit 5) g5], (kSeq (oSet (xMove q12) p4 
(oSet (xMove q10) p5 
oEnd)) (kSeq (kSeq (oSet (xMove g0) p10 
(oSet (xCall q214 [g10]) p11 
(oSet (xMove g11) p6 
oEnd))) (kSeq (oSet (xMove g6) p12 
(oSet (xLook (lkEq true .int g12 q10)) p13 
oEnd)) (kCond g13 (kSeq (oSet (xMove g6) p14 
(oSet (xMove q12) p4 
(oSet (xMove g14) p5 
oEnd))) kRet) kSkip))) (kSeq (kSeq (oSet (xMove g1) p15 
(oSet (xLook (lkBin .lss g15 q10)) p16 
(oSet (xMove g16) p17 
(oSetIf (wantF g17) (xMove g1) p18 
(oSetIf (wantF g17) (xMove g0) p19 
(oSetIf (wantF g17) (xLook (lkLen .sl g19)) p20 
(oSetIf (wantF g17) (xLook (lkBin .gtr g18 g20)) p21 
(oSet (xLook (lkPick g17 q30 g21)) p22 
oEnd)))))))) (kCond g22 (kSeq (oSet (xMove q12) p4 
(oSet (xMove q19) p5 
oEnd)) kRet) kSkip)) (kSeq (oSet (xMove g0) p24 
(oSet (xMove g1) p25 
(oSet (xLook (lkSliceSl (nat_lit 1) g24 none (some g25) none)) p26 
(oSet (xCall q286 [q12, g26]) p27 
(oSet (xMove g27) p23 
(oSet (xLook (lkExtract (nat_lit 0) g23)) p28 
(oSet (xLook (lkExtract (nat_lit 1) g23)) p29 
(oSet (xLook (lkExtract (nat_lit 2) g23)) p30 
(oSet (xMove g28) p7 
(oSet (xMove g29) p8 
(oSet (xMove g30) p9 
oEnd))))))))))) (kSeq (oSet (xMove g8) p31 
(oSet (xMove g9) p32 
(oSet (xMove g31) p4 
(oSet (xMove g32) p5 
oEnd)))) kRet)))))⟩
noncomputable def k147d0 : KD := 
(dLook (nat_lit 24) [] [(nat_lit 2)] (lkPick g25 q30 g38) p39 (dEnd [(nat_lit 15), (nat_lit 16), (nat_lit 17), (nat_lit 18), (nat_lit 19), (nat_lit 20), (nat_lit 21), (nat_lit 22), (nat_lit 23), (nat_lit 24), (nat_lit 25), (nat_lit 26), (nat_lit 27), (nat_lit 28), (nat_lit 29), (nat_lit 30), (nat_lit 31), (nat_lit 32), (nat_lit 33), (nat_lit 34), (nat_lit 35), (nat_lit 36), (nat_lit 37), (nat_lit 38), (nat_lit 39)]))
noncomputable def k147d1 : KD := 
(dIf [(nat_lit 2)] (wantF g25) p38 (dLook (nat_lit 23) [] [(nat_lit 2)] (lkPick g28 g37 q0) p38 k147d0) k147d0)
noncomputable def k147d2 : KD := 
(dIf [(nat_lit 2)] (wantT g28) p37 (dLook (nat_lit 22) [] [(nat_lit 2)] (lkBin .leq g30 g36) p37 k147d1) k147d1)
noncomputable def k147d3 : KD := 
(dIf [(nat_lit 2)] (wantT g28) p36 (dLook (nat_lit 21) [] [(nat_lit 2)] (lkLoad1 g35) p36 k147d2) k147d2)
noncomputable def k147d4 : KD := 
(dIf [(nat_lit 2)] (wantT g28) p35 (dLook (nat_lit 20) [] [(nat_lit 2)] (lkFieldAddr (nat_lit 0) g34) p35 k147d3) k147d3)
noncomputable def k147d5 : KD := 
(dIf [(nat_lit 2)] (wantT g28) p34 (dLook (nat_lit 19) [] [(nat_lit 2)] (lkIxSl (nat_lit 2) g31 g33) p34 k147d4) k147d4)
noncomputable def k147d6 : KD := 
(dIf [(nat_lit 2)] (wantT g28) p33 (dLook (nat_lit 18) [] [(nat_lit 2)] (lkBin .sub g32 q16) p33 k147d5) k147d5)
noncomputable def k147d7 : KD := 
(dIf [(nat_lit 2)] (wantT g28) p32 (dLook (nat_lit 17) [] [(nat_lit 2)] (lkMove g3) p32 k147d6) k147d6)
noncomputable def k147d8 : KD := 
(dIf [(nat_lit 2)] (wantT g28) p31 (dLook (nat_lit 16) [] [(nat_lit 2)] (lkMove g0) p31 k147d7) k147d7)
noncomputable def k147d9 : KD := 
(dIf [(nat_lit 2)] (wantT g28) p30 (dLook (nat_lit 15) [] [(nat_lit 2)] (lkLoad1 g29) p30 k147d8) k147d8)
noncomputable def k147d10 : KD := 
(dIf [(nat_lit 2)] (wantT g28) p29 (dLook (nat_lit 14) [] [(nat_lit 2)] (lkFieldAddr (nat_lit 0) g4) p29 k147d9) k147d9)
noncomputable def k147d11 : KD := 
(dIf [(nat_lit 2)] (wantF g25) p28 (dLook (nat_lit 13) [] [(nat_lit 2)] (lkMove g27) p28 k147d10) k147d10)
noncomputable def k147d12 : KD := 
(dIf [(nat_lit 2)] (wantF g25) p27 (dLook (nat_lit 12) [] [(nat_lit 2)] (lkBin .gtr g26 q10) p27 k147d11) k147d11)
noncomputable def k147d13 : KD := 
(dLook (nat_lit 9) [] [(nat_lit 2)] (lkPick g19 q30 g23) p24 
(dLook (nat_lit 10) [] [(nat_lit 2)] (lkMove g24) p25 
(dIf [(nat_lit 2)] (wantF g25) p26 (dLook (nat_lit 11) [] [(nat_lit 2)] (lkMove g3) p26 k147d12) k147d12)))
noncomputable def k147d14 : KD := 
(dIf [(nat_lit 2)] (wantF g19) p23 (dLook (nat_lit 8) [] [(nat_lit 2)] (lkBin .gtr g22 q68) p23 k147d13) k147d13)
noncomputable def k147d15 : KD := 
(dIf [(nat_lit 2)] (wantF g19) p22 (dLook (nat_lit 7) [] [(nat_lit 2)] (lkLen .str g21) p22 k147d14) k147d14)
noncomputable def k147d16 : KD := 
(dIf [(nat_lit 2)] (wantF g19) p21 (dLook (nat_lit 6) [] [(nat_lit 2)] (lkLoad1 g20) p21 k147d15) k147d15)
noncomputable def k147 : KFun := ⟨[rTmp (nat_lit 2) g2], (kSeq (oSet (xMove q10) p2 
oEnd) (kSeq (kSeq (oSet (xMove g0) p5 
(oSet (xLook (lkLen .sl g5)) p6 
(oSet (xLook (lkBin .gtr g6 q66)) p7 
oEnd))) (kCond g7 (kSeq (oSet (xMove q7) p2 
oEnd) kRet) kSkip)) (kSeq (kSeq (oSet (xMove g0) p8 
(oSet (xLook (lkLen .sl g8)) p9 
(oSet (xMove q10) p10 
oEnd))) (kBlock (nat_lit 0) (kLoop (kSeq (oSet (xLook (lkBin .lss g10 g9)) p11 
oEnd) (kSeq (kCond g11 kSkip (kExit (nat_lit 0))) (kSeq (kBlock (nat_lit 1) (kSeq (oSet (xMove g10) p12 
(oSet (xLook (lkIxSl (nat_lit 2) g8 g10)) p13 
(oSet (xLook (lkLoadN (nat_lit 2) g13)) p14 
(oSet (xTurn (tnAlloc q67)) p4 
(oSet (xMove g12) p3 
(oDo (xTurn (tnStore (nat_lit 2) g4 g14)) 
oEnd)))))) (kSeq (kDraw 
(dLook (nat_lit 0) [] [] (lkFieldAddr (nat_lit 0) g4) p15 
(dLook (nat_lit 1) [] [] (lkLoad1 g15) p16 
(dTurn (nat_lit 2) [] [] true (xCall q272 [g16]) p17 
(dLook (nat_lit 3) [] [(nat_lit 2)] (lkUn .not g17) p18 
(dLook (nat_lit 4) [] [(nat_lit 2)] (lkMove g18) p19 
(dIf [(nat_lit 2)] (wantF g19) p20 (dLook (nat_lit 5) [] [(nat_lit 2)] (lkFieldAddr (nat_lit 1) g4) p20 k147d16) k147d16))))))) (kCond g39 (kSeq (oSet (xMove q18) p2 
oEnd) kRet) kSkip)))) (oSet (xLook (lkBin .add g10 q16)) p40 
(oSet (xMove g40) p10 
oEnd)))))))) (kSeq (oSet (xMove q10) p2 
oEnd) kRet))))⟩
def q291 : List Value := [(.slice none (nat_lit 0) (nat_lit 0)), (.string ⟨⟨[]⟩⟩)]
def q292 : OpdF := kC (.func (.func (nat_lit 198)) ⟨[]⟩ ⟨[]⟩)
noncomputable def k148 : KFun := ⟨[rTmp (nat_lit 4) g4, rTmp (nat_lit 5) g5], (kSeq (oSet (xMove q10) p4 
(oSet (xMove q0) p5 
oEnd)) (kSeq (oSet (xMove g0) p6 
(oSet (xLook (lkLen .sl g6)) p7 
(oSet (xMove g0) p8 
(oSet (xMove g1) p9 
(oSet (xLook (lkBuild q291 [((nat_lit 0), (nat_lit 1), g8), ((nat_lit 1), (nat_lit 1), g9)])) p10 
(oSet (xLook (lkMkFunc (.func (nat_lit 199)) [g10] [])) p11 
(oSet (xCall q292 [g7, g11]) p12 
(oSet (xLook (lkExtract (nat_lit 0) g12)) p13 
(oSet (xLook (lkExtract (nat_lit 1) g12)) p14 
(oSet (xMove g13) p4 
(oSet (xMove g14) p5 
oEnd))))))))))) kRet))⟩
noncomputable def k151 : KFun := ⟨[], (kSeq (oSet (xMove g0) p4 
(oSet (xNil g4) p5 
(oSet (xLook (lkFieldAddr (nat_lit 1) g5)) p6 
(oSet (xLook (lkLoad1 g6)) p7 
(oSet (xLook (lkEq false .int g7 q10)) p8 
oEnd))))) (kCond g8 (oSet (xMove g0) p10 
(oSet (xMove g0) p11 
(oSet (xMove g0) p12 
(oSet (xNil g12) p13 
(oSet (xLook (lkFieldAddr (nat_lit 0) g13)) p14 
(oSet (xLook (lkLoad1 g14)) p15 
(oSet (xMove g1) p16 
(oSet (xCall q280 [g15, g16]) p17 
(oSet (xMove g17) p9 
(oSet (xLook (lkExtract (nat_lit 0) g9)) p18 
(oSet (xLook (lkExtract (nat_lit 1) g9)) p19 
(oSet (xNil g10) p20 
(oSet (xLook (lkFieldAddr (nat_lit 0) g20)) p21 
(oDo (xTurn (tnStore (nat_lit 1) g21 g18)) 
(oSet (xNil g11) p22 
(oSet (xLook (lkFieldAddr (nat_lit 1) g22)) p23 
(oDo (xTurn (tnStore (nat_lit 1) g23 g19)) 
oEnd))))))))))))))))) kSkip))⟩
def q294 : OpdF := kC (.func (.func (nat_lit 201)) ⟨[]⟩ ⟨[]⟩)
noncomputable def k152 : KFun := ⟨[rTmp (nat_lit 2) g2], (kSeq (oSet (xMove q12) p2 
oEnd) (kSeq (oSet (xMove g0) p3 
(oSet (xCall q294 [q12, g3]) p4 
(oSet (xMove g4) p2 
oEnd))) kRet))⟩
def q295 : OpdF := kC (.func (.func (nat_lit 203)) ⟨[]⟩ ⟨[]⟩)
def q296 : OpdF := kC (.func (.func (nat_lit 202)) ⟨[]⟩ ⟨[]⟩)
noncomputable def k153 : KFun := ⟨[], (kSeq (oSet (xMove g0) p3 
(oSet (xLook (lkLen .sl g3)) p4 
(oSet (xMove g4) p2 
oEnd))) (oSet (xMove g0) p5 
(oSet (xMove g2) p6 
(oSet (xMove g2) p7 
(oSet (xLook (lkIntTo .u64 g7)) p8 
(oSet (xCall q295 [g8]) p9 
(oSet (xCall q296 [g5, q10, g6, g9]) p10 
oEnd)))))))⟩
def q303 : OpdF := kC (.func (.func (nat_lit 209)) ⟨[]⟩ ⟨[]⟩)
noncomputable def k164 : KFun := ⟨[rTmp (nat_lit 2) g2], (kSeq (oSet (xMove q33) p2 
oEnd) (kSeq (oSet (xMove g0) p3 
(oSet (xCall q303 [g3]) p4 
(oSet (xMove g4) p2 
oEnd))) kRet))⟩
noncomputable def k166 : KFun := ⟨[], (kSeq (oSet (xTurn (tnBox g0)) p3 
oEnd) (kSeq (oSet (xLook (lkFieldAddr (nat_lit 0) g3)) p8 
(oSet (xLook (lkLoad1 g8)) p9 
(oSet (xMove g1) p10 
(oSet (xLook (lkLen .sl g10)) p11 
(oSet (xCall q49 [g9, g11]) p12 
oEnd))))) (kSeq (oSet (xMove g1) p13 
(oSet (xLook (lkLen .sl g13)) p14 
(oSet (xMove q10) p15 
oEnd))) (kBlock (nat_lit 0) (kLoop (kSeq (oSet (xLook (lkBin .lss g15 g14)) p16 
oEnd) (kSeq (kCond g16 kSkip (kExit (nat_lit 0))) (kSeq (kBlock (nat_lit 1) (kSeq (oSet (xLook (lkIxSl (nat_lit 1) g13 g15)) p17 
(oSet (xLook (lkLoad1 g17)) p18 
(oSet (xMove g18) p7 
oEnd))) (oSet (xMove g2) p19 
(oSet (xMove g7) p20 
(oSet (xCall g19 [g20]) p21 
oEnd))))) (oSet (xLook (lkBin .add g15 q16)) p22 
(oSet (xMove g22) p15 
oEnd))))))))))⟩
noncomputable def k167 : KFun := ⟨[], (kSeq (oSet (xTurn (tnBox g0)) p3 
oEnd) (kSeq (oSet (xLook (lkFieldAddr (nat_lit 0) g3)) p8 
(oSet (xLook (lkLoad1 g8)) p9 
(oSet (xMove g1) p10 
(oSet (xLook (lkLen .sl g10)) p11 
(oSet (xCall q49 [g9, g11]) p12 
oEnd))))) (kSeq (oSet (xMove g1) p13 
(oSet (xLook (lkLen .sl g13)) p14 
(oSet (xMove q10) p15 
oEnd))) (kBlock (nat_lit 0) (kLoop (kSeq (oSet (xLook (lkBin .lss g15 g14)) p16 
oEnd) (kSeq (kCond g16 kSkip (kExit (nat_lit 0))) (kSeq (kBlock (nat_lit 1) (kSeq (oSet (xLook (lkIxSl (nat_lit 2) g13 g15)) p17 
(oSet (xLook (lkLoadN (nat_lit 2) g17)) p18 
(oSet (xTurn (tnAlloc q67)) p7 
(oDo (xTurn (tnStore (nat_lit 2) g7 g18)) 
oEnd)))) (oSet (xMove g2) p19 
(oSet (xLook (lkLoadN (nat_lit 2) g7)) p20 
(oSet (xCall g19 [g20]) p21 
oEnd))))) (oSet (xLook (lkBin .add g15 q16)) p22 
(oSet (xMove g22) p15 
oEnd))))))))))⟩
noncomputable def k169 : KFun := ⟨[], (kSeq (oSet (xTurn (tnBox g0)) p3 
oEnd) (kSeq (oSet (xLook (lkFieldAddr (nat_lit 0) g3)) p8 
(oSet (xLook (lkLoad1 g8)) p9 
(oSet (xMove g1) p10 
(oSet (xLook (lkLen .sl g10)) p11 
(oSet (xCall q49 [g9, g11]) p12 
oEnd))))) (kSeq (oSet (xMove g1) p13 
(oSet (xLook (lkLen .sl g13)) p14 
(oSet (xMove q10) p15 
oEnd))) (kBlock (nat_lit 0) (kLoop (kSeq (oSet (xLook (lkBin .lss g15 g14)) p16 
oEnd) (kSeq (kCond g16 kSkip (kExit (nat_lit 0))) (kSeq (kBlock (nat_lit 1) (kSeq (oSet (xLook (lkIxSl (nat_lit 3) g13 g15)) p17 
(oSet (xLook (lkLoadN (nat_lit 3) g17)) p18 
(oSet (xTurn (tnAlloc q69)) p7 
(oDo (xTurn (tnStore (nat_lit 3) g7 g18)) 
oEnd)))) (oSet (xMove g2) p19 
(oSet (xLook (lkLoadN (nat_lit 3) g7)) p20 
(oSet (xCall g19 [g20]) p21 
oEnd))))) (oSet (xLook (lkBin .add g15 q16)) p22 
(oSet (xMove g22) p15 
oEnd))))))))))⟩
noncomputable def k170 : KFun := ⟨[], (kSeq (oSet (xTurn (tnBox g0)) p2 
(oSet (xTurn (tnBox g1)) p3 
oEnd)) (kSeq (oSet (xLook (lkFieldAddr (nat_lit 0) g2)) p4 
(oSet (xLook (lkLoad1 g4)) p5 
(oSet (xLook (lkFieldAddr (nat_lit 0) g3)) p6 
(oSet (xLook (lkLoad1 g6)) p7 
(oSet (xCall q93 [g5, g7]) p8 
oEnd))))) (kSeq (kSeq (oSet (xLook (lkFieldAddr (nat_lit 2) g3)) p9 
(oSet (xLook (lkLoad1 g9)) p10 
oEnd)) (kCond g10 (kSeq (oSet (xLook (lkFieldAddr (nat_lit 0) g2)) p11 
(oSet (xLook (lkLoad1 g11)) p12 
(oSet (xCall q49 [g12, q16]) p13 
oEnd))) kRet) kSkip)) (kSeq (oSet (xLook (lkFieldAddr (nat_lit 0) g2)) p14 
(oSet (xLook (lkLoad1 g14)) p15 
(oSet (xCall q49 [g15, q10]) p16 
oEnd))) (oSet (xLook (lkFieldAddr (nat_lit 0) g2)) p17 
(oSet (xLook (lkLoad1 g17)) p18 
(oSet (xLook (lkFieldAddr (nat_lit 1) g3)) p19 
(oSet (xLook (lkLoad1 g19)) p20 
(oSet (xCall q93 [g18, g20]) p21 
oEnd)))))))))⟩
def q316 : OpdF := kC (.int .u64 (.ofNat (nat_lit 18)))
def q322 : OpdF := kC (.int .u64 (.ofNat (nat_lit 1)))
noncomputable def k174 : KFun := ⟨[rTmp (nat_lit 6) g6, rTmp (nat_lit 7) g7], (kSeq (oSet (xMove q10) p6 
(oSet (xMove q0) p7 
oEnd)) (kSeq (oSet (xMove g0) p12 
(oSet (xLook (lkLen .sl g12)) p13 
(oSet (xMove g13) p8 
oEnd))) (kSeq (oSet (xMove g8) p14 
(oSet (xMove q10) p9 
(oSet (xMove g14) p10 
oEnd))) (kSeq (kBlock (nat_lit 0) (kLoop (kSeq (kSeq (oSet (xMove g9) p15 
(oSet (xMove g10) p16 
(oSet (xLook (lkBin .lss g15 g16)) p17 
oEnd))) (kCond g17 kSkip (kExit (nat_lit 0)))) (kBlock (nat_lit 1) (kSeq (oSet (xMove g9) p18 
(oSet (xMove g10) p19 
(oSet (xLook (lkBin .add g18 g19)) p20 
(oSet (xLook (lkIntTo .u64 g20)) p21 
(oSet (xLook (lkBin .shr g21 q322)) p22 
(oSet (xLook (lkIntTo .i64 g22)) p23 
(oSet (xMove g23) p11 
oEnd))))))) (kSeq (oSet (xMove g2) p24 
(oSet (xMove g0) p25 
(oSet (xMove g11) p26 
(oSet (xLook (lkIxSl (nat_lit 2) g25 g26)) p27 
(oSet (xLook (lkLoadN (nat_lit 2) g27)) p28 
(oSet (xMove g1) p29 
(oSet (xCall g24 [g28, g29]) p30 
(oSet (xLook (lkBin .lss g30 q10)) p31 
oEnd)))))))) (kCond g31 (oSet (xMove g11) p32 
(oSet (xLook (lkBin .add g32 q16)) p33 
(oSet (xMove g33) p9 
oEnd))) (oSet (xMove g11) p34 
(oSet (xMove g34) p10 
oEnd))))))))) (kSeq (oSet (xMove g9) p35 
(oSet (xMove g9) p36 
(oSet (xMove g8) p37 
(oSet (xLook (lkBin .lss g36 g37)) p38 
(oSet (xMove g38) p39 
(oSetIf (wantT g39) (xMove g2) p40 
(oSetIf (wantT g39) (xMove g0) p41 
(oSetIf (wantT g39) (xMove g9) p42 
(oSetIf (wantT g39) (xLook (lkIxSl (nat_lit 2) g41 g42)) p43 
(oSetIf (wantT g39) (xLook (lkLoadN (nat_lit 2) g43)) p44 
(oSetIf (wantT g39) (xMove g1) p45 
(oSetIf (wantT g39) (xCall g40 [g44, g45]) p46 
(oSetIf (wantT g39) (xLook (lkEq false .int g46 q10)) p47 
(oSet (xLook (lkPick g39 g47 q0)) p48 
(oSet (xMove g35) p6 
(oSet (xMove g48) p7 
oEnd)))))))))))))))) kRet)))))⟩
noncomputable def k175 : KFun := ⟨[rTmp (nat_lit 4) g4], (kSeq (oSet (xTurn (tnBox g0)) p2 
(oSet (xMove q10) p4 
oEnd)) (kSeq (kBlock (nat_lit 0) (kSeq (oSet (xLook (lkFieldAddr (nat_lit 0) g2)) p6 
(oSet (xLook (lkLoad1 g6)) p7 
(oSet (xMove g1) p8 
(oSet (xLook (lkBin .lss g7 g8)) p9 
(oSet (xMove g9) p5 
oEnd))))) (kCond g5 (kSeq (oSet (xMove q41) p4 
oEnd) kRet) (kSeq (oSet (xLook (lkFieldAddr (nat_lit 0) g2)) p11 
(oSet (xLook (lkLoad1 g11)) p12 
(oSet (xMove g1) p13 
(oSet (xLook (lkBin .gtr g12 g13)) p14 
(oSet (xMove g14) p10 
oEnd))))) (kCond g10 (kSeq (oSet (xMove q16) p4 
oEnd) kRet) kSkip))))) (kSeq (oSet (xMove q10) p4 
oEnd) kRet)))⟩
noncomputable def k176 : KFun := ⟨[rTmp (nat_lit 2) g2], (kSeq (oSet (xMove q10) p2 
oEnd) (kSeq (kSeq (oSet (xMove g0) p3 
(oSet (xLook (lkEq false .ptr g3 q2)) p4 
(oSet (xMove g4) p5 
(oSetIf (wantF g5) (xMove g0) p6 
(oSetIf (wantF g5) (xNil g6) p7 
(oSetIf (wantF g5) (xLook (lkFieldAddr (nat_lit 0) g7)) p8 
(oSetIf (wantF g5) (xCall q124 [g8]) p9 
(oSet (xLook (lkPick g5 q30 g9)) p10 
oEnd)))))))) (kCond g10 (kSeq (oSet (xMove q10) p2 
oEnd) kRet) kSkip)) (kSeq (oSet (xMove g0) p11 
(oSet (xNil g11) p12 
(oSet (xLook (lkFieldAddr (nat_lit 4) g12)) p13 
(oSet (xLook (lkLoad1 g13)) p14 
(oSet (xMove g14) p2 
oEnd))))) kRet)))⟩
noncomputable def k177 : KFun := ⟨[rCellN (nat_lit 4) g4 (nat_lit 6), rTmp (nat_lit 5) g5, rCellN (nat_lit 6) g6 (nat_lit 2)], (kSeq (oSet (xTurn (tnAlloc q34)) p4 
(oSet (xMove q10) p5 
(oSet (xTurn (tnAlloc q40)) p6 
oEnd))) (kSeq (kSeq (oSet (xMove g1) p12 
(oSet (xLook (lkBin .lss g12 q10)) p13 
(oSet (xMove g13) p14 
(oSetIf (wantF g14) (xMove g1) p15 
(oSetIf (wantF g14) (xMove g0) p16 
(oSetIf (wantF g14) (xLook (lkLen .sl g16)) p17 
(oSetIf (wantF g14) (xLook (lkBin .gtr g15 g17)) p18 
(oSet (xLook (lkPick g14 q30 g18)) p19 
oEnd)))))))) (kCond g19 (kSeq (oSet (xLook (lkBuild q34 [])) p20 
(oSet (xLook (lkBuild q40 [((nat_lit 0), (nat_lit 1), q19)])) p21 
(oDo (xTurn (tnStore (nat_lit 6) g4 g20)) 
(oSet (xMove q10) p5 
(oDo (xTurn (tnStore (nat_lit 2) g6 g21)) 
oEnd))))) kRet) kSkip)) (kSeq (oSet (xMove g0) p22 
(oSet (xMove g1) p23 
(oSet (xLook (lkSliceSl (nat_lit 1) g22 (some g23) none none)) p24 
(oSet (xCall q59 [g24]) p25 
(oSet (xMove g25) p7 
oEnd))))) (kSeq (oSet (xMove g7) p26 
(oSet (xCall q60 [g26, q16, q121]) p27 
(oSet (xLook (lkBuild q34 [((nat_lit 0), (nat_lit 1), g27)])) p28 
(oSet (xTurn (tnAlloc q34)) p8 
(oDo (xTurn (tnStore (nat_lit 6) g8 g28)) 
oEnd))))) (kSeq (kSeq (oSet (xLook (lkFieldAddr (nat_lit 0) g8)) p29 
(oSet (xLook (lkLoad1 g29)) p30 
(oSet (xCall q91 [g30]) p31 
(oSet (xTurn (tnRangeStr g31)) p32 
oEnd)))) (kBlock (nat_lit 0) (kLoop (kSeq (oSet (xTurn (tnNextStr g32)) p33 
(oSet (xLook (lkExtract (nat_lit 0) g33)) p34 
oEnd)) (kSeq (kCond g34 kSkip (kExit (nat_lit 0))) (kBlock (nat_lit 1) (kSeq (oSet (xLook (lkExtract (nat_lit 2) g33)) p35 
(oSet (xMove g35) p10 
oEnd)) (kSeq (oSet (xMove g10) p36 
oEnd) (kBlock (nat_lit 2) (kSeq (oSet (xLook (lkEq false .int g36 q92)) p43 
(oSet (xMove g43) p42 
oEnd)) (kCond g42 (oSet (xMove g7) p44 
(oSet (xCall q65 [g44, q68]) p45 
(oSet (xLook (lkFieldAddr (nat_lit 5) g8)) p46 
(oDo (xTurn (tnStore (nat_lit 1) g46 g45)) 
oEnd)))) (kSeq (oSet (xLook (lkEq false .int g36 q96)) p48 
(oSet (xMove g48) p47 
oEnd)) (kCond g47 (oSet (xMove g7) p49 
(oSet (xLook (lkFieldAddr (nat_lit 0) g8)) p50 
(oSet (xLook (lkLoad1 g50)) p51 
(oSet (xCall q122 [g51]) p52 
(oSet (xCall q60 [g49, q16, g52]) p53 
(oSet (xLook (lkFieldAddr (nat_lit 4) g8)) p54 
(oDo (xTurn (tnStore (nat_lit 1) g54 g53)) 
oEnd))))))) (oSet (xMove g10) p37 
(oSet (xCall q94 [g8, g37]) p38 
(oSet (xMove g7) p39 
(oSet (xCall q60 [g39, q10, q22]) p40 
(oSet (xNil g38) p41 
(oDo (xTurn (tnStore (nat_lit 1) g41 g40)) 
oEnd))))))))))))))))))) (kSeq (kSeq (oSet (xMove g7) p55 
(oSet (xCall q112 [g55]) p56 
(oSet (xTurn (tnAlloc q40)) p11 
(oDo (xTurn (tnStore (nat_lit 2) g11 g56)) 
oEnd)))) (kSeq (oSet (xLook (lkFieldAddr (nat_lit 0) g11)) p57 
(oSet (xLook (lkLoad1 g57)) p58 
(oSet (xLook (lkEq true .int g58 q10)) p59 
oEnd))) (kCond g59 (kSeq (kDraw 
(dLook (nat_lit 0) [] [] (lkBuild q34 []) p60 
(dLook (nat_lit 1) [] [] (lkFieldAddr (nat_lit 0) g11) p61 
(dLook (nat_lit 2) [] [] (lkLoad1 g61) p62 
(dLook (nat_lit 3) [] [] (lkMove g1) p63 
(dLook (nat_lit 4) [] [] (lkFieldAddr (nat_lit 1) g11) p64 
(dLook (nat_lit 5) [] [] (lkLoad1 g64) p65 
(dLook (nat_lit 6) [] [] (lkBin .add g63 g65) p66 
(dLook (nat_lit 7) [] [] (lkBuild q40 [((nat_lit 0), (nat_lit 1), g62), ((nat_lit 1), (nat_lit 1), g66)]) p67 
(dTurn (nat_lit 8) [(nat_lit 2), (nat_lit 5)] [] true (xTurn (tnStore (nat_lit 6) g4 g60)) noDst 
(dLook (nat_lit 9) [] [(nat_lit 8)] (lkMove q10) p5 
(dTurn (nat_lit 10) [] [(nat_lit 8)] true (xTurn (tnStore (nat_lit 2) g6 g67)) noDst (dEnd [(nat_lit 60), (nat_lit 61), (nat_lit 62), (nat_lit 63), (nat_lit 64), (nat_lit 65), (nat_lit 66), (nat_lit 67), (nat_lit 5)]))))))))))))) kRet) kSkip))) (kSeq (kDraw 
(dLook (nat_lit 0) [] [] (lkLoadN (nat_lit 6) g8) p68 
(dLook (nat_lit 1) [] [] (lkMove g1) p69 
(dLook (nat_lit 2) [] [] (lkMove g7) p70 
(dTurn (nat_lit 3) [(nat_lit 0)] [] true (xCall q264 [g70]) p71 
(dLook (nat_lit 4) [] [(nat_lit 3)] (lkBin .add g69 g71) p72 
(dLook (nat_lit 5) [] [] (lkBuild q40 []) p73 
(dTurn (nat_lit 6) [] [(nat_lit 3)] true (xTurn (tnStore (nat_lit 6) g4 g68)) noDst 
(dLook (nat_lit 7) [] [(nat_lit 3), (nat_lit 6)] (lkMove g72) p5 
(dTurn (nat_lit 8) [] [(nat_lit 3), (nat_lit 6)] true (xTurn (tnStore (nat_lit 2) g6 g73)) noDst (dEnd [(nat_lit 68), (nat_lit 69), (nat_lit 70), (nat_lit 71), (nat_lit 72), (nat_lit 73), (nat_lit 5)]))))))))))) kRet)))))))⟩
noncomputable def k178 : KFun := ⟨[rTmp (nat_lit 2) g2], (kSeq (oSet (xMove q0) p2 
oEnd) (kSeq (kSeq (oSet (xMove q16) p3 
oEnd) (kBlock (nat_lit 0) (kLoop (kSeq (kSeq (oSet (xMove g3) p4 
(oSet (xMove g0) p5 
(oSet (xLook (lkLen .sl g5)) p6 
(oSet (xLook (lkBin .lss g4 g6)) p7 
oEnd)))) (kCond g7 kSkip (kExit (nat_lit 0)))) (kSeq (kBlock (nat_lit 1) (kSeq (kDraw 
(dLook (nat_lit 0) [] [] (lkMove g0) p10 
(dLook (nat_lit 1) [] [] (lkMove g3) p11 
(dLook (nat_lit 2) [] [] (lkIxSl (nat_lit 1) g10 g11) p12 
(dLook (nat_lit 3) [] [] (lkLoad1 g12) p13 
(dLook (nat_lit 4) [] [] (lkMove g0) p14 
(dLook (nat_lit 5) [] [] (lkMove g3) p15 
(dLook (nat_lit 6) [] [] (lkBin .sub g15 q16) p16 
(dLook (nat_lit 7) [] [] (lkIxSl (nat_lit 1) g14 g16) p17 
(dLook (nat_lit 8) [] [] (lkLoad1 g17) p18 
(dLook (nat_lit 9) [] [] (lkBin .leq g13 g18) p19 (dEnd [(nat_lit 10), (nat_lit 11), (nat_lit 12), (nat_lit 13), (nat_lit 14), (nat_lit 15), (nat_lit 16), (nat_lit 17), (nat_lit 18), (nat_lit 19)])))))))))))) (kCond g19 (kSeq (oSet (xMove q0) p2 
oEnd) kRet) kSkip))) (oSet (xMove g3) p8 
(oSet (xLook (lkBin .add g8 q16)) p9 
(oSet (xMove g9) p3 
oEnd)))))))) (kSeq (oSet (xMove q30) p2 
oEnd) kRet)))⟩
noncomputable def k179 : KFun := ⟨[rTmp (nat_lit 2) g2], (kSeq (oSet (xTurn (tnBox g0)) p1 
(oSet (xMove q12) p2 
oEnd)) (kSeq (oSet (xMove q12) p3 
oEnd) (kSeq (kSeq (oSet (xLook (lkFieldAddr (nat_lit 4) g1)) p6 
(oSet (xLook (lkLoad1 g6)) p7 
(oSet (xLook (lkLen .sl g7)) p8 
(oSet (xMove q10) p9 
oEnd)))) (kBlock (nat_lit 0) (kLoop (kSeq (oSet (xLook (lkBin .lss g9 g8)) p10 
oEnd) (kSeq (kCond g10 kSkip (kExit (nat_lit 0))) (kSeq (kBlock (nat_lit 1) (kSeq (oSet (xLook (lkIxSl (nat_lit 3) g7 g9)) p11 
(oSet (xLook (lkLoadN (nat_lit 3) g11)) p12 
(oSet (xTurn (tnAlloc q69)) p5 
(oDo (xTurn (tnStore (nat_lit 3) g5 g12)) 
oEnd)))) (oSet (xMove g3) p13 
(oSet (xLook (lkFieldAddr (nat_lit 0) g5)) p14 
(oSet (xLook (lkLoad1 g14)) p15 
(oSet (xTurn (tnBuildSlice q5 [((nat_lit 0), (nat_lit 1), g15)] (nat_lit 1))) p16 
(oSet (xTurn (tnAppend (nat_lit 1) g13 g16)) p17 
(oSet (xMove g17) p3 
oEnd)))))))) (oSet (xLook (lkBin .add g9 q16)) p18 
(oSet (xMove g18) p9 
oEnd)))))))) (kSeq (oSet (xMove g3) p19 
(oSet (xMove g19) p2 
oEnd)) kRet))))⟩
noncomputable def k180d0 : KD := 
(dLook (nat_lit 17) [] [] (lkPick g32 q30 g36) p37 (dEnd [(nat_lit 20), (nat_lit 21), (nat_lit 22), (nat_lit 23), (nat_lit 24), (nat_lit 25), (nat_lit 26), (nat_lit 27), (nat_lit 28), (nat_lit 29), (nat_lit 30), (nat_lit 31), (nat_lit 32), (nat_lit 33), (nat_lit 34), (nat_lit 35), (nat_lit 36), (nat_lit 37)]))
noncomputable def k180d1 : KD := 
(dIf [] (wantF g32) p36 (dLook (nat_lit 16) [] [] (lkBin .gtr g35 q68) p36 k180d0) k180d0)
noncomputable def k180d2 : KD := 
(dIf [] (wantF g32) p35 (dLook (nat_lit 15) [] [] (lkLen .str g34) p35 k180d1) k180d1)
noncomputable def k180d3 : KD := 
(dIf [] (wantF g32) p34 (dLook (nat_lit 14) [] [] (lkLoad1 g33) p34 k180d2) k180d2)
noncomputable def k180d4 : KD := 
(dLook (nat_lit 11) [] [] (lkPick g26 q30 g30) p31 
(dLook (nat_lit 12) [] [] (lkMove g31) p32 
(dIf [] (wantF g32) p33 (dLook (nat_lit 13) [] [] (lkFieldAddr (nat_lit 1) g5) p33 k180d3) k180d3)))
noncomputable def k180d5 : KD := 
(dIf [] (wantF g26) p30 (dLook (nat_lit 10) [] [] (lkBin .gtr g29 q68) p30 k180d4) k180d4)
noncomputable def k180d6 : KD := 
(dIf [] (wantF g26) p29 (dLook (nat_lit 9) [] [] (lkLen .str g28) p29 k180d5) k180d5)
noncomputable def k180d7 : KD := 
(dIf [] (wantF g26) p28 (dLook (nat_lit 8) [] [] (lkLoad1 g27) p28 k180d6) k180d6)
noncomputable def k180 : KFun := ⟨[rTmp (nat_lit 2) g2], (kSeq (oSet (xMove q0) p2 
oEnd) (kSeq (oSet (xMove g0) p6 
(oSet (xCall q277 [g6]) p7 
(oSet (xMove g7) p3 
oEnd))) (kSeq (kSeq (oSet (xMove g3) p8 
(oSet (xLook (lkLen .sl g8)) p9 
(oSet (xMove g0) p10 
(oSet (xLook (lkLen .sl g10)) p11 
(oSet (xLook (lkEq true .int g9 g11)) p12 
oEnd))))) (kCond g12 (kSeq (oSet (xMove q0) p2 
oEnd) kRet) kSkip)) (kSeq (kSeq (oSet (xMove g0) p13 
(oSet (xLook (lkLen .sl g13)) p14 
(oSet (xMove q10) p15 
oEnd))) (kBlock (nat_lit 0) (kLoop (kSeq (oSet (xLook (lkBin .lss g15 g14)) p16 
oEnd) (kSeq (kCond g16 kSkip (kExit (nat_lit 0))) (kSeq (kBlock (nat_lit 1) (kSeq (oSet (xMove g15) p17 
(oSet (xLook (lkIxSl (nat_lit 2) g13 g15)) p18 
(oSet (xLook (lkLoadN (nat_lit 2) g18)) p19 
(oSet (xTurn (tnAlloc q67)) p5 
(oSet (xMove g17) p4 
(oDo (xTurn (tnStore (nat_lit 2) g5 g19)) 
oEnd)))))) (kSeq (kDraw 
(dLook (nat_lit 0) [] [] (lkLoadN (nat_lit 2) g5) p20 
(dLook (nat_lit 1) [] [] (lkMove g3) p21 
(dLook (nat_lit 2) [] [] (lkMove g4) p22 
(dLook (nat_lit 3) [] [] (lkIxSl (nat_lit 2) g21 g22) p23 
(dLook (nat_lit 4) [] [] (lkLoadN (nat_lit 2) g23) p24 
(dLook (nat_lit 5) [] [] (lkEq true (.flat [.str, .str]) g20 g24) p25 
(dLook (nat_lit 6) [] [] (lkMove g25) p26 
(dIf [] (wantF g26) p27 (dLook (nat_lit 7) [] [] (lkFieldAddr (nat_lit 0) g5) p27 k180d7) k180d7))))))))) (kCond g37 (kSeq (oSet (xMove q0) p2 
oEnd) kRet) kSkip)))) (oSet (xLook (lkBin .add g15 q16)) p38 
(oSet (xMove g38) p15 
oEnd)))))))) (kSeq (oSet (xMove q30) p2 
oEnd) kRet)))))⟩
noncomputable def k181 : KFun := ⟨[rTmp (nat_lit 2) g2], (kSeq (oSet (xMove q0) p2 
oEnd) (kSeq (oSet (xMove g0) p3 
(oSet (xLook (lkEq true .str g3 q33)) p4 
(oSet (xMove g4) p5 
(oSetIf (wantT g5) (xMove g0) p6 
(oSetIf (wantT g5) (xLook (lkLen .str g6)) p7 
(oSetIf (wantT g5) (xLook (lkBin .leq g7 q244)) p8 
(oSet (xLook (lkPick g5 g8 q0)) p9 
(oSet (xMove g9) p2 
oEnd)))))))) kRet))⟩
noncomputable def k182 : KFun := ⟨[rTmp (nat_lit 2) g2], (kSeq (oSet (xTurn (tnBox g0)) p1 
(oSet (xMove q0) p2 
oEnd)) (kSeq (oSet (xLook (lkFieldAddr (nat_lit 0) g1)) p3 
(oSet (xLook (lkLoad1 g3)) p4 
(oSet (xCall q272 [g4]) p5 
(oSet (xMove g5) p6 
(oSetIf (wantT g6) (xLook (lkFieldAddr (nat_lit 1) g1)) p7 
(oSetIf (wantT g6) (xLook (lkLoad1 g7)) p8 
(oSetIf (wantT g6) (xLook (lkLen .str g8)) p9 
(oSetIf (wantT g6) (xLook (lkBin .leq g9 q68)) p10 
(oSet (xLook (lkPick g6 g10 q0)) p11 
(oSet (xMove g11) p12 
(oSetIf (wantT g12) (xLook (lkFieldAddr (nat_lit 2) g1)) p13 
(oSetIf (wantT g12) (xLook (lkLoad1 g13)) p14 
(oSetIf (wantT g12) (xLook (lkUn .not g14)) p15 
(oSetIf (wantT g12) (xMove g15) p16 
(oSetIf (wantF g16) (xLook (lkFieldAddr (nat_lit 1) g1)) p17 
(oSetIf (wantF g16) (xLook (lkLoad1 g17)) p18 
(oSetIf (wantF g16) (xLook (lkEq false .str g18 q33)) p19 
(oSetIf (wantT g12) (xLook (lkPick g16 q30 g19)) p20 
(oSet (xLook (lkPick g12 g20 q0)) p21 
(oSet (xMove g21) p2 
oEnd)))))))))))))))))))) kRet))⟩
def q323 : OpdF := kC (.func (.func (nat_lit 216)) ⟨[]⟩ ⟨[]⟩)
def q324 : List Value := [.nilFunc, .nilFunc, .nilFunc, .nilFunc, .nilFunc, .nilFunc, .nilFunc, .nilFunc, .nilFunc, .nilFunc, .nilFunc, .nilFunc, .nilFunc, .nilFunc, .nilFunc, .nilFunc]
def q325 : OpdF := kC (.func (.func (nat_lit 217)) ⟨[]⟩ ⟨[]⟩)
noncomputable def k183 : KFun := ⟨[], (kSeq (oSet (xTurn (tnBox g0)) p2 
oEnd) (kSeq (oSet (xLook (lkMkFunc (.func (nat_lit 215)) [] [g2])) p6 
(oDo (xDefer g6 []) 
oEnd)) (kSeq (oSet (xCall q323 []) p7 
(oSet (xTurn (tnAlloc q324)) p4 
(oDo (xTurn (tnStore (nat_lit 16) g4 g7)) 
oEnd))) (kBlock (nat_lit 0) (kLoop (kSeq (kSeq (oSet (xLook (lkLoad1 g2)) p8 
(oSet (xNil g8) p9 
(oSet (xLook (lkFieldAddr (nat_lit 10) g9)) p10 
(oSet (xLook (lkLoad1 g10)) p11 
(oSet (xMove g1) p12 
(oSet (xLook (lkLen .sl g12)) p13 
(oSet (xLook (lkBin .lss g11 g13)) p14 
oEnd))))))) (kCond g14 kSkip (kExit (nat_lit 0)))) (kBlock (nat_lit 1) (kSeq (oSet (xLook (lkLoad1 g2)) p15 
(oSet (xCall q325 [g15]) p16 
oEnd)) (kSeq (oSet (xMove g1) p17 
(oSet (xLook (lkLoad1 g2)) p18 
(oSet (xNil g18) p19 
(oSet (xLook (lkFieldAddr (nat_lit 10) g19)) p20 
(oSet (xLook (lkLoad1 g20)) p21 
(oSet (xLook (lkIxSl (nat_lit 6) g17 g21)) p22 
(oSet (xLook (lkLoadN (nat_lit 6) g22)) p23 
(oSet (xTurn (tnAlloc q34)) p5 
(oDo (xTurn (tnStore (nat_lit 6) g5 g23)) 
oEnd))))))))) (kSeq (oSet (xLook (lkLoad1 g2)) p24 
(oSet (xNil g24) p25 
(oSet (xLook (lkFieldAddr (nat_lit 10) g25)) p26 
(oSet (xLook (lkLoad1 g26)) p27 
(oSet (xLook (lkBin .add g27 q16)) p28 
(oSet (xNil g24) p29 
(oSet (xLook (lkFieldAddr (nat_lit 10) g29)) p30 
(oDo (xTurn (tnStore (nat_lit 1) g30 g28)) 
oEnd)))))))) (kDraw 
(dLook (nat_lit 0) [] [] (lkFieldAddr (nat_lit 0) g5) p31 
(dLook (nat_lit 1) [] [] (lkLoad1 g31) p32 
(dLook (nat_lit 2) [] [] (lkIxArr (nat_lit 16) (nat_lit 1) g4 g32) p33 
(dLook (nat_lit 3) [] [] (lkLoad1 g33) p34 
(dLook (nat_lit 4) [] [] (lkLoad1 g2) p35 
(dLook (nat_lit 5) [] [] (lkLoadN (nat_lit 6) g5) p36 
(dTurn (nat_lit 6) [] [] true (xCall g34 [g35, g36]) p37 (dEnd [(nat_lit 31), (nat_lit 32), (nat_lit 33), (nat_lit 34), (nat_lit 35), (nat_lit 36), (nat_lit 37)])))))))))))))))))))⟩
def q326 : OpdF := kC (.func (.func (nat_lit 218)) ⟨[]⟩ ⟨[]⟩)
noncomputable def k184 : KFun := ⟨[rTmp (nat_lit 2) g2], (kSeq (oSet (xMove q12) p2 
oEnd) (kSeq (oSet (xTurn (tnMkMap (.one .str))) p6 
(oSet (xMove g6) p3 
oEnd)) (kSeq (kSeq (oSet (xMove g0) p7 
(oSet (xLook (lkLen .sl g7)) p8 
(oSet (xMove q10) p9 
oEnd))) (kBlock (nat_lit 0) (kLoop (kSeq (oSet (xLook (lkBin .lss g9 g8)) p10 
oEnd) (kSeq (kCond g10 kSkip (kExit (nat_lit 0))) (kSeq (kBlock (nat_lit 1) (kSeq (oSet (xLook (lkIxSl (nat_lit 1) g7 g9)) p11 
(oSet (xLook (lkLoad1 g11)) p12 
(oSet (xMove g12) p5 
oEnd))) (oSet (xMove g3) p13 
(oSet (xMove g5) p14 
(oSet (xLook (lkBuild [] [])) p15 
(oDo (xTurn (tnMapUpdate (.one .str) g13 g14 g15)) 
oEnd)))))) (oSet (xLook (lkBin .add g9 q16)) p16 
(oSet (xMove g16) p9 
oEnd)))))))) (kSeq (oSet (xMove g3) p17 
(oSet (xCall q326 [g17]) p18 
(oSet (xCall q189 [g18]) p19 
(oSet (xMove g19) p2 
oEnd)))) kRet))))⟩
def q327 : OpdF := kC (.func (.func (nat_lit 219)) ⟨[]⟩ ⟨[]⟩)
noncomputable def k185 : KFun := ⟨[rTmp (nat_lit 2) g2], (kSeq (oSet (xMove q12) p2 
oEnd) (kSeq (oSet (xMove g0) p3 
(oSet (xCall q327 [g3]) p4 
(oSet (xMove g4) p2 
oEnd))) kRet))⟩
def q328 : OpdF := kC (.func (.func (nat_lit 220)) ⟨[]⟩ ⟨[]⟩)
noncomputable def k186 : KFun := ⟨[rTmp (nat_lit 2) g2], (kSeq (oSet (xMove q12) p2 
oEnd) (kSeq (oSet (xMove q12) p3 
oEnd) (kSeq (kSeq (oSet (xMove g0) p6 
(oSet (xNil g6) p7 
(oSet (xLook (lkFieldAddr (nat_lit 0) g7)) p8 
(oSet (xLook (lkLoad1 g8)) p9 
(oSet (xCall q328 [g9]) p10 
(oSet (xCall q189 [g10]) p11 
(oSet (xLook (lkLen .sl g11)) p12 
(oSet (xMove q10) p13 
oEnd)))))))) (kBlock (nat_lit 0) (kLoop (kSeq (oSet (xLook (lkBin .lss g13 g12)) p14 
oEnd) (kSeq (kCond g14 kSkip (kExit (nat_lit 0))) (kSeq (kBlock (nat_lit 1) (kSeq (oSet (xLook (lkIxSl (nat_lit 1) g11 g13)) p15 
(oSet (xLook (lkLoad1 g15)) p16 
(oSet (xMove g16) p5 
oEnd))) (oSet (xMove g3) p17 
(oSet (xMove g0) p18 
(oSet (xNil g18) p19 
(oSet (xLook (lkFieldAddr (nat_lit 0) g19)) p20 
(oSet (xLook (lkLoad1 g20)) p21 
(oSet (xMove g5) p22 
(oSet (xLook (lkLookup (.one .str) (.agg ⟨[(.string ⟨⟨[]⟩⟩), (.string ⟨⟨[]⟩⟩), (.bool false)]⟩) false g21 g22)) p23 
(oSet (xTurn (tnBuildSlice q69 [((nat_lit 0), (nat_lit 3), g23)] (nat_lit 1))) p24 
(oSet (xTurn (tnAppend (nat_lit 3) g17 g24)) p25 
(oSet (xMove g25) p3 
oEnd)))))))))))) (oSet (xLook (lkBin .add g13 q16)) p26 
(oSet (xMove g26) p13 
oEnd)))))))) (kSeq (oSet (xMove g3) p27 
(oSet (xMove g27) p2 
oEnd)) kRet))))⟩
def q329 : OpdF := kC (.func (.func (nat_lit 221)) ⟨[]⟩ ⟨[]⟩)
def q330 : OpdF := kC (.func (.func (nat_lit 222)) ⟨[]⟩ ⟨[]⟩)
def q331 : OpdF := kC (.func (.func (nat_lit 223)) ⟨[]⟩ ⟨[]⟩)
noncomputable def k187 : KFun := ⟨[rTmp (nat_lit 4) g4, rTmp (nat_lit 5) g5], (kSeq (oSet (xMove q12) p4 
(oSet (xMove q10) p5 
oEnd)) (kSeq (kSeq (oSet (xMove g0) p12 
(oSet (xCall q223 [g12]) p13 
(oSet (xMove g13) p6 
oEnd))) (kSeq (oSet (xMove g6) p14 
(oSet (xLook (lkEq true .int g14 q10)) p15 
oEnd)) (kCond g15 (kSeq (oSet (xMove g6) p16 
(oSet (xMove q12) p4 
(oSet (xMove g16) p5 
oEnd))) kRet) kSkip))) (kSeq (oSet (xTurn (tnMkMap (.one .str))) p17 
(oSet (xLook (lkBuild q233 [((nat_lit 0), (nat_lit 1), g17)])) p18 
(oSet (xTurn (tnAlloc q233)) p7 
(oDo (xTurn (tnStore (nat_lit 1) g7 g18)) 
oEnd)))) (kSeq (kSeq (oSet (xMove g0) p19 
(oSet (xLook (lkLen .sl g19)) p20 
(oSet (xMove q10) p21 
oEnd))) (kBlock (nat_lit 0) (kLoop (kSeq (oSet (xLook (lkBin .lss g21 g20)) p22 
oEnd) (kSeq (kCond g22 kSkip (kExit (nat_lit 0))) (kSeq (kBlock (nat_lit 1) (kSeq (oSet (xLook (lkIxSl (nat_lit 2) g19 g21)) p23 
(oSet (xLook (lkLoadN (nat_lit 2) g23)) p24 
(oSet (xTurn (tnAlloc q67)) p9 
(oDo (xTurn (tnStore (nat_lit 2) g9 g24)) 
oEnd)))) (oSet (xLook (lkFieldAddr (nat_lit 0) g7)) p25 
(oSet (xLook (lkLoad1 g25)) p26 
(oSet (xLook (lkFieldAddr (nat_lit 0) g9)) p27 
(oSet (xLook (lkLoad1 g27)) p28 
(oSet (xLook (lkFieldAddr (nat_lit 1) g9)) p29 
(oSet (xLook (lkLoad1 g29)) p30 
(oSet (xLook (lkBuild q5 [((nat_lit 0), (nat_lit 1), g30)])) p31 
(oDo (xTurn (tnMapUpdate (.one .str) g26 g28 g31)) 
oEnd)))))))))) (oSet (xLook (lkBin .add g21 q16)) p32 
(oSet (xMove g32) p21 
oEnd)))))))) (kSeq (kSeq (oSet (xMove g1) p33 
(oSet (xLook (lkLen .sl g33)) p34 
(oSet (xMove q10) p35 
oEnd))) (kBlock (nat_lit 2) (kLoop (kSeq (oSet (xLook (lkBin .lss g35 g34)) p36 
oEnd) (kSeq (kCond g36 kSkip (kExit (nat_lit 2))) (kSeq (kBlock (nat_lit 3) (kSeq (oSet (xLook (lkIxSl (nat_lit 3) g33 g35)) p37 
(oSet (xLook (lkLoadN (nat_lit 3) g37)) p38 
(oSet (xTurn (tnAlloc q69)) p11 
(oDo (xTurn (tnStore (nat_lit 3) g11 g38)) 
oEnd)))) (kSeq (kSeq (oSet (xLook (lkLoadN (nat_lit 3) g11)) p39 
(oSet (xCall q329 [g39]) p40 
(oSet (xLook (lkUn .not g40)) p41 
oEnd))) (kCond g41 (kSeq (oSet (xMove q12) p4 
(oSet (xMove q18) p5 
oEnd)) kRet) kSkip)) (oSet (xLook (lkLoadN (nat_lit 1) g7)) p42 
(oSet (xLook (lkLoadN (nat_lit 3) g11)) p43 
(oSet (xCall q330 [g42, g43]) p44 
oEnd)))))) (oSet (xLook (lkBin .add g35 q16)) p45 
(oSet (xMove g45) p35 
oEnd)))))))) (kSeq (kSeq (oSet (xLook (lkFieldAddr (nat_lit 0) g7)) p46 
(oSet (xLook (lkLoad1 g46)) p47 
(oSet (xLook (lkLen .map g47)) p48 
(oSet (xLook (lkBin .gtr g48 q66)) p49 
oEnd)))) (kCond g49 (kSeq (oSet (xMove q12) p4 
(oSet (xMove q7) p5 
oEnd)) kRet) kSkip)) (kSeq (oSet (xLook (lkLoadN (nat_lit 1) g7)) p50 
(oSet (xCall q331 [g50]) p51 
(oSet (xMove g51) p4 
(oSet (xMove q10) p5 
oEnd)))) kRet)))))))⟩
noncomputable def k188 : KFun := ⟨[rTmp (nat_lit 2) g2], (kSeq (oSet (xMove q12) p2 
oEnd) (kSeq (kSeq (oSet (xMove g0) p3 
(oSet (xLook (lkEq false .slice g3 q12)) p4 
oEnd)) (kCond g4 (kSeq (oSet (xMove q12) p2 
oEnd) kRet) kSkip)) (kSeq (oSet (xTurn (tnBuildSlice [] [] (nat_lit 0))) p5 
(oSet (xMove g0) p6 
(oSet (xTurn (tnAppend (nat_lit 1) g5 g6)) p7 
(oSet (xMove g7) p2 
oEnd)))) kRet)))⟩
noncomputable def k189 : KFun := ⟨[rTmp (nat_lit 2) g2], (kSeq (oSet (xMove q12) p2 
oEnd) (kSeq (kSeq (oSet (xMove g0) p3 
(oSet (xLook (lkEq false .slice g3 q12)) p4 
oEnd)) (kCond g4 (kSeq (oSet (xMove q12) p2 
oEnd) kRet) kSkip)) (kSeq (oSet (xTurn (tnBuildSlice [] [] (nat_lit 0))) p5 
(oSet (xMove g0) p6 
(oSet (xTurn (tnAppend (nat_lit 2) g5 g6)) p7 
(oSet (xMove g7) p2 
oEnd)))) kRet)))⟩
noncomputable def k190 : KFun := ⟨[rTmp (nat_lit 2) g2], (kSeq (oSet (xMove q12) p2 
oEnd) (kSeq (kSeq (oSet (xMove g0) p3 
(oSet (xLook (lkEq false .slice g3 q12)) p4 
oEnd)) (kCond g4 (kSeq (oSet (xMove q12) p2 
oEnd) kRet) kSkip)) (kSeq (oSet (xTurn (tnBuildSlice [] [] (nat_lit 0))) p5 
(oSet (xMove g0) p6 
(oSet (xTurn (tnAppend (nat_lit 3) g5 g6)) p7 
(oSet (xMove g7) p2 
oEnd)))) kRet)))⟩
def q332 : OpdF := kC (.func (.func (nat_lit 224)) ⟨[]⟩ ⟨[]⟩)
noncomputable def k191 : KFun := ⟨[rTmp (nat_lit 4) g4], (kSeq (oSet (xTurn (tnBox g0)) p2 
(oSet (xMove q0) p4 
oEnd)) (kSeq (oSet (xMove g1) p5 
(oSet (xLook (lkFieldAddr (nat_lit 2) g2)) p6 
(oSet (xLook (lkLoad1 g6)) p7 
(oSet (xLook (lkFieldAddr (nat_lit 3) g2)) p8 
(oSet (xLook (lkLoad1 g8)) p9 
(oSet (xCall q332 [g5, g7, g9]) p10 
(oSet (xMove g10) p4 
oEnd))))))) kRet))⟩
noncomputable def k192 : KFun := ⟨[rTmp (nat_lit 4) g4], (kSeq (oSet (xMove q12) p4 
oEnd) (kSeq (oSet (xMove q12) p5 
oEnd) (kSeq (kSeq (oSet (xMove g0) p8 
(oSet (xMove g1) p9 
(oSet (xCall q184 [g8, g9]) p10 
(oSet (xLook (lkLen .sl g10)) p11 
(oSet (xMove q10) p12 
oEnd))))) (kBlock (nat_lit 0) (kLoop (kSeq (oSet (xLook (lkBin .lss g12 g11)) p13 
oEnd) (kSeq (kCond g13 kSkip (kExit (nat_lit 0))) (kSeq (kBlock (nat_lit 1) (kSeq (oSet (xLook (lkIxSl (nat_lit 3) g10 g12)) p14 
(oSet (xLook (lkLoadN (nat_lit 3) g14)) p15 
(oSet (xTurn (tnAlloc q69)) p7 
(oDo (xTurn (tnStore (nat_lit 3) g7 g15)) 
oEnd)))) (oSet (xMove g5) p16 
(oSet (xLook (lkFieldAddr (nat_lit 0) g7)) p17 
(oSet (xLook (lkLoad1 g17)) p18 
(oSet (xTurn (tnBuildSlice q5 [((nat_lit 0), (nat_lit 1), g18)] (nat_lit 1))) p19 
(oSet (xTurn (tnAppend (nat_lit 1) g16 g19)) p20 
(oSet (xMove g20) p5 
oEnd)))))))) (oSet (xLook (lkBin .add g12 q16)) p21 
(oSet (xMove g21) p12 
oEnd)))))))) (kSeq (oSet (xMove g5) p22 
(oSet (xMove g22) p4 
oEnd)) kRet))))⟩
def q333 : OpdF := kC (.func (.func (nat_lit 225)) ⟨[]⟩ ⟨[]⟩)
def q334 : CCode := (.region false [⟨none, (some (nat_lit 12)), (.alloc [(.int .i64 (.ofNat (nat_lit 0))), (.int .i64 (.ofNat (nat_lit 0))), (.slice none (nat_lit 0) (nat_lit 0)), (.slice none (nat_lit 0) (nat_lit 0)), (.slice none (nat_lit 0) (nat_lit 0))]), (nat_lit 0), [], []⟩,
⟨none, none, (.store (nat_lit 5) (.tmp (nat_lit 12)) (.tmp (nat_lit 32))), (nat_lit 1), [], []⟩])
def q335 : CCode := (.block (nat_lit 1) (.region false [⟨none, (some (nat_lit 33)), (.load1 (.tmp (nat_lit 10))), (nat_lit 0), [], []⟩,
⟨none, (some (nat_lit 34)), (.loadN (nat_lit 5) (.tmp (nat_lit 12))), (nat_lit 1), [], []⟩,
⟨none, (some (nat_lit 35)), (.buildSlice [(.int .i64 (.ofNat (nat_lit 0))), (.int .i64 (.ofNat (nat_lit 0))), (.slice none (nat_lit 0) (nat_lit 0)), (.slice none (nat_lit 0) (nat_lit 0)), (.slice none (nat_lit 0) (nat_lit 0))] [⟨(nat_lit 0), (nat_lit 5), (.tmp (nat_lit 34))⟩] (nat_lit 1)), (nat_lit 2), [], []⟩,
⟨none, (some (nat_lit 36)), (.append (nat_lit 5) (.tmp (nat_lit 33)) (.tmp (nat_lit 35))), (nat_lit 3), [], []⟩,
⟨none, none, (.store (nat_lit 1) (.tmp (nat_lit 10)) (.tmp (nat_lit 36))), (nat_lit 4), [], []⟩]))
noncomputable def k193 : KFun := ⟨[rTmp (nat_lit 4) g4, rTmp (nat_lit 5) g5, rTmp (nat_lit 6) g6], (kSeq (oSet (xMove q12) p4 
(oSet (xMove q12) p5 
(oSet (xMove q10) p6 
oEnd))) (kSeq (kSeq (oSet (xMove g1) p13 
(oSet (xCall q214 [g13]) p14 
(oSet (xMove g14) p7 
oEnd))) (kSeq (oSet (xMove g7) p15 
(oSet (xLook (lkEq true .int g15 q10)) p16 
oEnd)) (kCond g16 (kSeq (oSet (xMove g7) p17 
(oSet (xMove q12) p4 
(oSet (xMove q12) p5 
(oSet (xMove g17) p6 
oEnd)))) kRet) kSkip))) (kSeq (kSeq (oSet (xMove g0) p18 
(oSet (xCall q223 [g18]) p19 
(oSet (xMove g19) p8 
oEnd))) (kSeq (oSet (xMove g8) p20 
(oSet (xLook (lkEq true .int g20 q10)) p21 
oEnd)) (kCond g21 (kSeq (oSet (xMove g8) p22 
(oSet (xMove q12) p4 
(oSet (xMove q12) p5 
(oSet (xMove g22) p6 
oEnd)))) kRet) kSkip))) (kSeq (oSet (xMove g0) p23 
(oSet (xTurn (tnAppend (nat_lit 2) q12 g23)) p24 
(oSet (xLook (lkBuild q227 [((nat_lit 0), (nat_lit 1), g24)])) p25 
(oSet (xLook (lkBuild q227 [((nat_lit 0), (nat_lit 2), g25)])) p26 
(oSet (xTurn (tnBox g26)) p27 
(oSet (xMove g27) p9 
oEnd)))))) (kSeq (oSet (xTurn (tnAlloc q77)) p10 
oEnd) (kSeq (kSeq (oSet (xMove g9) p28 
(oSet (xMove g1) p29 
(oSet (xCall q333 [g28, g29]) p30 
oEnd))) (kBlock (nat_lit 0) (kRange g30 [(nat_lit 31), (nat_lit 32)] q334 q335))) (kSeq (kSeq (oSet (xMove g9) p37 
(oSet (xNil g37) p38 
(oSet (xLook (lkFieldAddr (nat_lit 0) g38)) p39 
(oSet (xLook (lkFieldAddr (nat_lit 1) g39)) p40 
(oSet (xLook (lkLoad1 g40)) p41 
(oSet (xLook (lkEq true .int g41 q10)) p42 
oEnd)))))) (kCond g42 (kSeq (kDraw 
(dLook (nat_lit 0) [] [] (lkMove g9) p43 
(dTurn (nat_lit 1) [] [] false (xNil g43) p44 
(dLook (nat_lit 2) [] [] (lkFieldAddr (nat_lit 0) g44) p45 
(dLook (nat_lit 3) [] [] (lkFieldAddr (nat_lit 1) g45) p46 
(dLook (nat_lit 4) [] [] (lkLoad1 g46) p47 
(dLook (nat_lit 5) [] [] (lkMove q12) p4 
(dLook (nat_lit 6) [] [] (lkMove q12) p5 
(dLook (nat_lit 7) [] [] (lkMove g47) p6 (dEnd [(nat_lit 43), (nat_lit 44), (nat_lit 45), (nat_lit 46), (nat_lit 47), (nat_lit 4), (nat_lit 5), (nat_lit 6)])))))))))) kRet) kSkip)) (kSeq (kDraw 
(dLook (nat_lit 0) [] [] (lkLoad1 g10) p48 
(dLook (nat_lit 1) [] [] (lkMove g9) p49 
(dTurn (nat_lit 2) [] [] false (xNil g49) p50 
(dLook (nat_lit 3) [] [] (lkFieldAddr (nat_lit 0) g50) p51 
(dLook (nat_lit 4) [] [] (lkFieldAddr (nat_lit 0) g51) p52 
(dLook (nat_lit 5) [] [] (lkLoad1 g52) p53 
(dLook (nat_lit 6) [] [] (lkMove g48) p4 
(dLook (nat_lit 7) [] [] (lkMove g53) p5 
(dLook (nat_lit 8) [] [] (lkMove q10) p6 (dEnd [(nat_lit 48), (nat_lit 49), (nat_lit 50), (nat_lit 51), (nat_lit 52), (nat_lit 53), (nat_lit 4), (nat_lit 5), (nat_lit 6)]))))))))))) kRet))))))))⟩
noncomputable def k198 : KFun := ⟨[rTmp (nat_lit 4) g4, rTmp (nat_lit 5) g5], (kSeq (oSet (xMove q10) p4 
(oSet (xMove q0) p5 
oEnd)) (kSeq (oSet (xMove g0) p8 
(oSet (xMove q10) p4 
(oSet (xMove g8) p6 
oEnd))) (kSeq (kBlock (nat_lit 0) (kLoop (kSeq (kSeq (oSet (xMove g4) p9 
(oSet (xMove g6) p10 
(oSet (xLook (lkBin .lss g9 g10)) p11 
oEnd))) (kCond g11 kSkip (kExit (nat_lit 0)))) (kBlock (nat_lit 1) (kSeq (oSet (xMove g4) p12 
(oSet (xMove g6) p13 
(oSet (xLook (lkBin .add g12 g13)) p14 
(oSet (xLook (lkIntTo .u64 g14)) p15 
(oSet (xLook (lkBin .shr g15 q322)) p16 
(oSet (xLook (lkIntTo .i64 g16)) p17 
(oSet (xMove g17) p7 
oEnd))))))) (kSeq (oSet (xMove g1) p18 
(oSet (xMove g7) p19 
(oSet (xCall g18 [g19]) p20 
(oSet (xLook (lkBin .gtr g20 q10)) p21 
oEnd)))) (kCond g21 (oSet (xMove g7) p22 
(oSet (xLook (lkBin .add g22 q16)) p23 
(oSet (xMove g23) p4 
oEnd))) (oSet (xMove g7) p24 
(oSet (xMove g24) p6 
oEnd))))))))) (kSeq (oSet (xMove g4) p25 
(oSet (xMove g4) p26 
(oSet (xMove g0) p27 
(oSet (xLook (lkBin .lss g26 g27)) p28 
(oSet (xMove g28) p29 
(oSetIf (wantT g29) (xMove g1) p30 
(oSetIf (wantT g29) (xMove g4) p31 
(oSetIf (wantT g29) (xCall g30 [g31]) p32 
(oSetIf (wantT g29) (xLook (lkEq false .int g32 q10)) p33 
(oSet (xLook (lkPick g29 g33 q0)) p34 
(oSet (xMove g25) p4 
(oSet (xMove g34) p5 
oEnd)))))))))))) kRet))))⟩
noncomputable def k199 : KFun := ⟨[rTmp (nat_lit 4) g4], (kSeq (oSet (xTurn (tnBox g0)) p2 
(oSet (xMove q10) p4 
oEnd)) (kSeq (kBlock (nat_lit 0) (kSeq (kDraw 
(dLook (nat_lit 0) [] [] (lkFieldAddr (nat_lit 1) g2) p6 
(dLook (nat_lit 1) [] [] (lkLoad1 g6) p7 
(dLook (nat_lit 2) [] [] (lkFieldAddr (nat_lit 0) g2) p8 
(dLook (nat_lit 3) [] [] (lkLoad1 g8) p9 
(dLook (nat_lit 4) [] [] (lkMove g1) p10 
(dLook (nat_lit 5) [] [] (lkIxSl (nat_lit 2) g9 g10) p11 
(dLook (nat_lit 6) [] [] (lkFieldAddr (nat_lit 0) g11) p12 
(dLook (nat_lit 7) [] [] (lkLoad1 g12) p13 
(dLook (nat_lit 8) [] [] (lkBin .lss g7 g13) p14 
(dLook (nat_lit 9) [] [] (lkMove g14) p5 (dEnd [(nat_lit 6), (nat_lit 7), (nat_lit 8), (nat_lit 9), (nat_lit 10), (nat_lit 11), (nat_lit 12), (nat_lit 13), (nat_lit 14), (nat_lit 5)])))))))))))) (kCond g5 (kSeq (oSet (xMove q41) p4 
oEnd) kRet) (kSeq (kDraw 
(dLook (nat_lit 0) [] [] (lkFieldAddr (nat_lit 1) g2) p16 
(dLook (nat_lit 1) [] [] (lkLoad1 g16) p17 
(dLook (nat_lit 2) [] [] (lkFieldAddr (nat_lit 0) g2) p18 
(dLook (nat_lit 3) [] [] (lkLoad1 g18) p19 
(dLook (nat_lit 4) [] [] (lkMove g1) p20 
(dLook (nat_lit 5) [] [] (lkIxSl (nat_lit 2) g19 g20) p21 
(dLook (nat_lit 6) [] [] (lkFieldAddr (nat_lit 0) g21) p22 
(dLook (nat_lit 7) [] [] (lkLoad1 g22) p23 
(dLook (nat_lit 8) [] [] (lkBin .gtr g17 g23) p24 
(dLook (nat_lit 9) [] [] (lkMove g24) p15 (dEnd [(nat_lit 16), (nat_lit 17), (nat_lit 18), (nat_lit 19), (nat_lit 20), (nat_lit 21), (nat_lit 22), (nat_lit 23), (nat_lit 24), (nat_lit 15)])))))))))))) (kCond g15 (kSeq (oSet (xMove q16) p4 
oEnd) kRet) kSkip))))) (kSeq (oSet (xMove q10) p4 
oEnd) kRet)))⟩
def q338 : CCode := (.region false [⟨none, (some (nat_lit 5)), (.move (.tmp (nat_lit 7))), (nat_lit 0), [], []⟩])

end Go.Proofs.YtdgipehldjnfcaaGreatDoor.Eng
