/-
  The functions that the law reaches, as the abstract machine runs them, printed by program. No condition.
-/
import Derived.Test.YtfknpknbgfkbdaaA
namespace Go.Proofs.Ytfknpknbgfkbdaa.Eng
open Go Go.Eng
set_option linter.unusedVariables false
set_option maxRecDepth 100000

def q0 : OpdF := kC (.bool false)
def q1 : OpdF := kC (.func (.func (nat_lit 31)) ⟨[]⟩ ⟨[]⟩)
def q2 : OpdF := kC (.string ⟨⟨[98]⟩⟩)
def q3 : OpdF := kC (.string ⟨⟨[100]⟩⟩)
def q4 : OpdF := kC (.func (.func (nat_lit 12)) ⟨[]⟩ ⟨[]⟩)
def q5 : OpdF := kC (.string ⟨⟨[]⟩⟩)
def q6 : OpdF := kC (.string ⟨⟨[122, 122]⟩⟩)
def q7 : OpdF := kC (.func (.func (nat_lit 13)) ⟨[]⟩ ⟨[]⟩)
def q8 : OpdF := kC (.string ⟨⟨[97]⟩⟩)
def q9 : OpdF := kC (.string ⟨⟨[99]⟩⟩)
def q10 : OpdF := kC (.func (.func (nat_lit 11)) ⟨[]⟩ ⟨[]⟩)
def q11 : OpdF := kC (.func (.func (nat_lit 17)) ⟨[]⟩ ⟨[]⟩)
def q12 : OpdF := kC (.string ⟨⟨[107]⟩⟩)
def q13 : OpdF := kC (.string ⟨⟨[107, 0]⟩⟩)
def q14 : OpdF := kC (.string ⟨⟨[122]⟩⟩)
def q15 : OpdF := kC (.func (.func (nat_lit 19)) ⟨[]⟩ ⟨[]⟩)
def q16 : List Value := [(.string ⟨⟨[]⟩⟩), (.string ⟨⟨[]⟩⟩), (.string ⟨⟨[]⟩⟩), (.string ⟨⟨[]⟩⟩)]
def q17 : OpdF := kC (.func (.func (nat_lit 28)) ⟨[]⟩ ⟨[]⟩)
def q18 : OpdF := kC (.func (.func (nat_lit 9)) ⟨[]⟩ ⟨[]⟩)
noncomputable def k8 : KFun := ⟨[rTmp (nat_lit 0) g0], (kSeq (oSet (xMove q0) p0 
oEnd) (kSeq (oSet (xCall q1 [q2, q3]) p4 
(oSet (xCall q4 [g4, q3]) p5 
(oSet (xLook (lkUn .not g5)) p6 
(oSet (xMove g6) p7 
(oSetIf (wantT g7) (xCall q1 [q2, q5]) p8 
(oSetIf (wantT g7) (xCall q4 [g8, q6]) p9 
(oSet (xLook (lkPick g7 g9 q0)) p10 
(oSet (xMove g10) p11 
(oSetIf (wantT g11) (xCall q1 [q5, q5]) p12 
(oSetIf (wantT g11) (xCall q7 [g12]) p13 
(oSetIf (wantT g11) (xLook (lkUn .not g13)) p14 
(oSet (xLook (lkPick g11 g14 q0)) p15 
(oSet (xMove g15) p16 
(oSetIf (wantT g16) (xCall q1 [q8, q2]) p17 
(oSetIf (wantT g16) (xCall q1 [q2, q9]) p18 
(oSetIf (wantT g16) (xCall q10 [g17, g18]) p19 
(oSetIf (wantT g16) (xLook (lkUn .not g19)) p20 
(oSet (xLook (lkPick g16 g20 q0)) p21 
(oSet (xMove g21) p22 
(oSetIf (wantT g22) (xCall q1 [q9, q2]) p23 
(oSetIf (wantT g22) (xCall q1 [q5, q5]) p24 
(oSetIf (wantT g22) (xCall q10 [g23, g24]) p25 
(oSetIf (wantT g22) (xLook (lkUn .not g25)) p26 
(oSet (xLook (lkPick g22 g26 q0)) p27 
(oSet (xMove g27) p1 
oEnd))))))))))))))))))))))))) (kSeq (oSet (xCall q11 [q12]) p28 
(oSet (xCall q1 [q12, q13]) p29 
(oSet (xLook (lkEq false (.flat [.str, .str]) g28 g29)) p30 
(oSet (xMove g30) p31 
(oSetIf (wantT g31) (xCall q1 [q8, q14]) p32 
(oSetIf (wantT g31) (xCall q15 [g32, q12]) p33 
(oSetIf (wantT g31) (xCall q1 [q8, q13]) p34 
(oSetIf (wantT g31) (xLook (lkEq false (.flat [.str, .str]) g33 g34)) p35 
(oSet (xLook (lkPick g31 g35 q0)) p36 
(oSet (xMove g36) p37 
(oSetIf (wantT g37) (xCall q1 [q8, q9]) p38 
(oSetIf (wantT g37) (xCall q15 [g38, q12]) p39 
(oSetIf (wantT g37) (xCall q1 [q8, q9]) p40 
(oSetIf (wantT g37) (xLook (lkEq false (.flat [.str, .str]) g39 g40)) p41 
(oSet (xLook (lkPick g37 g41 q0)) p42 
(oSet (xMove g42) p2 
oEnd)))))))))))))))) (kSeq (oSet (xCall q1 [q8, q2]) p43 
(oSet (xCall q1 [q2, q9]) p44 
(oSet (xTurn (tnBuildSlice q16 [((nat_lit 0), (nat_lit 2), g43), ((nat_lit 2), (nat_lit 2), g44)] (nat_lit 2))) p45 
(oSet (xCall q1 [q8, q9]) p46 
(oSet (xCall q17 [g45, g46]) p47 
(oSet (xMove g47) p48 
(oSetIf (wantT g48) (xCall q1 [q8, q2]) p49 
(oSetIf (wantT g48) (xCall q1 [q9, q3]) p50 
(oSetIf (wantT g48) (xTurn (tnBuildSlice q16 [((nat_lit 0), (nat_lit 2), g49), ((nat_lit 2), (nat_lit 2), g50)] (nat_lit 2))) p51 
(oSetIf (wantT g48) (xCall q1 [q8, q3]) p52 
(oSetIf (wantT g48) (xCall q17 [g51, g52]) p53 
(oSetIf (wantT g48) (xLook (lkUn .not g53)) p54 
(oSet (xLook (lkPick g48 g54 q0)) p55 
(oSet (xMove g55) p3 
oEnd)))))))))))))) (kSeq (oSet (xCall q18 []) p56 
(oSet (xMove g56) p57 
(oSetIf (wantT g57) (xMove g1) p58 
(oSet (xLook (lkPick g57 g58 q0)) p59 
(oSet (xMove g59) p60 
(oSetIf (wantT g60) (xMove g2) p61 
(oSet (xLook (lkPick g60 g61 q0)) p62 
(oSet (xMove g62) p63 
(oSetIf (wantT g63) (xMove g3) p64 
(oSet (xLook (lkPick g63 g64 q0)) p65 
(oSet (xMove g65) p0 
oEnd))))))))))) kRet)))))⟩
def q19 : OpdF := kC (.string ⟨⟨[101]⟩⟩)
def q20 : OpdF := kC (.string ⟨⟨[102]⟩⟩)
def q21 : List Value := [(.string ⟨⟨[]⟩⟩), (.string ⟨⟨[]⟩⟩), (.string ⟨⟨[]⟩⟩), (.string ⟨⟨[]⟩⟩), (.string ⟨⟨[]⟩⟩), (.string ⟨⟨[]⟩⟩), (.string ⟨⟨[]⟩⟩), (.string ⟨⟨[]⟩⟩), (.string ⟨⟨[]⟩⟩), (.string ⟨⟨[]⟩⟩)]
def q22 : OpdF := kC (.func (.func (nat_lit 22)) ⟨[]⟩ ⟨[]⟩)
def q23 : OpdF := kC (.func (.func (nat_lit 23)) ⟨[]⟩ ⟨[]⟩)
noncomputable def k9 : KFun := ⟨[rTmp (nat_lit 0) g0], (kSeq (oSet (xMove q0) p0 
oEnd) (kSeq (oSet (xCall q1 [q2, q3]) p1 
(oSet (xCall q4 [g1, q2]) p2 
(oSet (xMove g2) p3 
(oSetIf (wantT g3) (xCall q1 [q2, q2]) p4 
(oSetIf (wantT g3) (xCall q7 [g4]) p5 
(oSet (xLook (lkPick g3 g5 q0)) p6 
(oSet (xMove g6) p7 
(oSetIf (wantT g7) (xCall q1 [q8, q9]) p8 
(oSetIf (wantT g7) (xCall q1 [q2, q3]) p9 
(oSetIf (wantT g7) (xCall q10 [g8, g9]) p10 
(oSet (xLook (lkPick g7 g10 q0)) p11 
(oSet (xMove g11) p12 
(oSetIf (wantT g12) (xCall q1 [q9, q3]) p13 
(oSetIf (wantT g12) (xCall q1 [q8, q2]) p14 
(oSetIf (wantT g12) (xCall q1 [q2, q9]) p15 
(oSetIf (wantT g12) (xCall q1 [q19, q19]) p16 
(oSetIf (wantT g12) (xCall q1 [q20, q5]) p17 
(oSetIf (wantT g12) (xTurn (tnBuildSlice q21 [((nat_lit 0), (nat_lit 2), g13), ((nat_lit 2), (nat_lit 2), g14), ((nat_lit 4), (nat_lit 2), g15), ((nat_lit 6), (nat_lit 2), g16), ((nat_lit 8), (nat_lit 2), g17)] (nat_lit 5))) p18 
(oSetIf (wantT g12) (xCall q22 [g18]) p19 
(oSetIf (wantT g12) (xCall q1 [q8, q3]) p20 
(oSetIf (wantT g12) (xCall q1 [q20, q5]) p21 
(oSetIf (wantT g12) (xTurn (tnBuildSlice q16 [((nat_lit 0), (nat_lit 2), g20), ((nat_lit 2), (nat_lit 2), g21)] (nat_lit 2))) p22 
(oSetIf (wantT g12) (xCall q23 [g19, g22]) p23 
(oSet (xLook (lkPick g12 g23 q0)) p24 
(oSet (xMove g24) p0 
oEnd))))))))))))))))))))))))) kRet))⟩
noncomputable def k11 : KFun := ⟨[rTmp (nat_lit 4) g4], (kSeq (oSet (xTurn (tnBox g0)) p2 
(oSet (xTurn (tnBox g1)) p3 
(oSet (xMove q0) p4 
oEnd))) (kSeq (oSet (xLook (lkFieldAddr (nat_lit 0) g2)) p6 
(oSet (xLook (lkLoad1 g6)) p7 
(oSet (xLook (lkFieldAddr (nat_lit 0) g3)) p8 
(oSet (xLook (lkLoad1 g8)) p9 
(oSet (xLook (lkMax g7 [g9])) p10 
(oSet (xMove g10) p5 
oEnd)))))) (kSeq (oSet (xLook (lkLoadN (nat_lit 2) g2)) p11 
(oSet (xMove g5) p12 
(oSet (xCall q4 [g11, g12]) p13 
(oSet (xMove g13) p14 
(oSetIf (wantT g14) (xLook (lkLoadN (nat_lit 2) g3)) p15 
(oSetIf (wantT g14) (xMove g5) p16 
(oSetIf (wantT g14) (xCall q4 [g15, g16]) p17 
(oSet (xLook (lkPick g14 g17 q0)) p18 
(oSet (xMove g18) p4 
oEnd))))))))) kRet)))⟩
def q24 : List Value := [(.string ⟨⟨[]⟩⟩), (.string ⟨⟨[]⟩⟩)]
def q25 : OpdF := kC (.func (.func (nat_lit 32)) ⟨[]⟩ ⟨[]⟩)
noncomputable def k12 : KFun := ⟨[rTmp (nat_lit 4) g4], (kSeq (oSet (xTurn (tnBox g0)) p2 
(oSet (xMove q0) p4 
oEnd)) (kSeq (oSet (xMove g1) p5 
(oSet (xLook (lkFieldAddr (nat_lit 0) g2)) p6 
(oSet (xLook (lkLoad1 g6)) p7 
(oSet (xLook (lkBin .geq g5 g7)) p8 
(oSet (xMove g8) p9 
(oSetIf (wantT g9) (xLook (lkLoadN (nat_lit 2) g2)) p10 
(oSetIf (wantT g9) (xLook (lkBuild q24 [((nat_lit 0), (nat_lit 2), g10)])) p11 
(oSetIf (wantT g9) (xMove g1) p12 
(oSetIf (wantT g9) (xCall q25 [g11, g12]) p13 
(oSet (xLook (lkPick g9 g13 q0)) p14 
(oSet (xMove g14) p4 
oEnd))))))))))) kRet))⟩
noncomputable def k13 : KFun := ⟨[rTmp (nat_lit 2) g2], (kSeq (oSet (xTurn (tnBox g0)) p1 
(oSet (xMove q0) p2 
oEnd)) (kSeq (oSet (xLook (lkLoadN (nat_lit 2) g1)) p3 
(oSet (xLook (lkBuild q24 [((nat_lit 0), (nat_lit 2), g3)])) p4 
(oSet (xLook (lkFieldAddr (nat_lit 0) g1)) p5 
(oSet (xLook (lkLoad1 g5)) p6 
(oSet (xCall q25 [g4, g6]) p7 
(oSet (xLook (lkUn .not g7)) p8 
(oSet (xMove g8) p2 
oEnd))))))) kRet))⟩
def q26 : OpdF := kC (.string ⟨⟨[0]⟩⟩)
noncomputable def k17 : KFun := ⟨[rCellN (nat_lit 2) g2 (nat_lit 2)], (kSeq (oSet (xTurn (tnAlloc q24)) p2 
oEnd) (kSeq (oSet (xMove g0) p3 
(oSet (xMove g0) p4 
(oSet (xLook (lkBin .add g4 q26)) p5 
(oSet (xLook (lkBuild q24 [((nat_lit 0), (nat_lit 1), g3), ((nat_lit 1), (nat_lit 1), g5)])) p6 
(oDo (xTurn (tnStore (nat_lit 2) g2 g6)) 
oEnd))))) kRet))⟩
noncomputable def k19 : KFun := ⟨[rCellN (nat_lit 4) g4 (nat_lit 2)], (kSeq (oSet (xTurn (tnBox g0)) p2 
(oSet (xTurn (tnAlloc q24)) p4 
oEnd)) (kSeq (kSeq (oSet (xMove g1) p6 
(oSet (xCall q11 [g6]) p7 
(oSet (xLook (lkField1 (nat_lit 1) g7)) p8 
(oSet (xMove g8) p5 
oEnd)))) (kSeq (oSet (xLook (lkLoadN (nat_lit 2) g2)) p9 
(oSet (xLook (lkBuild q24 [((nat_lit 0), (nat_lit 2), g9)])) p10 
(oSet (xMove g5) p11 
(oSet (xCall q25 [g10, g11]) p12 
oEnd)))) (kCond g12 (oSet (xMove g5) p13 
(oSet (xLook (lkFieldAddr (nat_lit 1) g2)) p14 
(oDo (xTurn (tnStore (nat_lit 1) g14 g13)) 
oEnd))) kSkip))) (kSeq (oSet (xLook (lkLoadN (nat_lit 2) g2)) p15 
(oDo (xTurn (tnStore (nat_lit 2) g4 g15)) 
oEnd)) kRet)))⟩
def q27 : OpdF := kC (.slice none (nat_lit 0) (nat_lit 0))
def q28 : OpdF := kC (.func (.func (nat_lit 34)) ⟨[]⟩ ⟨[]⟩)
noncomputable def k22 : KFun := ⟨[rTmp (nat_lit 2) g2], (kSeq (oSet (xMove q27) p2 
oEnd) (kSeq (oSet (xMove g0) p3 
(oSet (xCall q28 [g3]) p4 
(oSet (xMove g4) p2 
oEnd))) kRet))⟩
def q29 : OpdF := kC (.int .i64 (.ofNat (nat_lit 0)))
def q30 : OpdF := kC (.int .i64 (.ofNat (nat_lit 1)))
def q31 : OpdF := kC (.bool true)
noncomputable def k23 : KFun := ⟨[rTmp (nat_lit 4) g4], (kSeq (oSet (xMove q0) p4 
oEnd) (kSeq (kSeq (oSet (xMove g0) p6 
(oSet (xLook (lkLen .sl g6)) p7 
(oSet (xMove g1) p8 
(oSet (xLook (lkLen .sl g8)) p9 
(oSet (xLook (lkEq true .int g7 g9)) p10 
oEnd))))) (kCond g10 (kSeq (oSet (xMove q0) p4 
oEnd) kRet) kSkip)) (kSeq (kSeq (oSet (xMove q29) p5 
oEnd) (kBlock (nat_lit 0) (kLoop (kSeq (kSeq (oSet (xMove g5) p11 
(oSet (xMove g0) p12 
(oSet (xLook (lkLen .sl g12)) p13 
(oSet (xLook (lkBin .lss g11 g13)) p14 
oEnd)))) (kCond g14 kSkip (kExit (nat_lit 0)))) (kSeq (kBlock (nat_lit 1) (kSeq (kDraw 
(dLook (nat_lit 0) [] [] (lkMove g0) p17 
(dLook (nat_lit 1) [] [] (lkMove g5) p18 
(dLook (nat_lit 2) [] [] (lkIxSl (nat_lit 2) g17 g18) p19 
(dLook (nat_lit 3) [] [] (lkLoadN (nat_lit 2) g19) p20 
(dLook (nat_lit 4) [] [] (lkMove g1) p21 
(dLook (nat_lit 5) [] [] (lkMove g5) p22 
(dLook (nat_lit 6) [] [] (lkIxSl (nat_lit 2) g21 g22) p23 
(dLook (nat_lit 7) [] [] (lkLoadN (nat_lit 2) g23) p24 
(dLook (nat_lit 8) [] [] (lkEq true (.flat [.str, .str]) g20 g24) p25 (dEnd [(nat_lit 17), (nat_lit 18), (nat_lit 19), (nat_lit 20), (nat_lit 21), (nat_lit 22), (nat_lit 23), (nat_lit 24), (nat_lit 25)]))))))))))) (kCond g25 (kSeq (oSet (xMove q0) p4 
oEnd) kRet) kSkip))) (oSet (xMove g5) p15 
(oSet (xLook (lkBin .add g15 q30)) p16 
(oSet (xMove g16) p5 
oEnd)))))))) (kSeq (oSet (xMove q31) p4 
oEnd) kRet))))⟩
def q32 : OpdF := kC (.func (.func (nat_lit 36)) ⟨[]⟩ ⟨[]⟩)
noncomputable def k28 : KFun := ⟨[rTmp (nat_lit 4) g4], (kSeq (oSet (xTurn (tnBox g1)) p3 
(oSet (xMove q0) p4 
oEnd)) (kSeq (kSeq (oSet (xLook (lkLoadN (nat_lit 2) g3)) p5 
(oSet (xCall q7 [g5]) p6 
oEnd)) (kCond g6 (kSeq (oSet (xMove q31) p4 
oEnd) kRet) kSkip)) (kSeq (oSet (xMove g0) p7 
(oSet (xCall q22 [g7]) p8 
(oSet (xLook (lkMkFunc (.func (nat_lit 38)) [] [g3])) p9 
(oSet (xCall q32 [g8, g9]) p10 
(oSet (xMove g10) p4 
oEnd))))) kRet)))⟩
noncomputable def k31 : KFun := ⟨[rCellN (nat_lit 4) g4 (nat_lit 2)], (kSeq (oSet (xTurn (tnAlloc q24)) p4 
oEnd) (kSeq (oSet (xMove g0) p5 
(oSet (xMove g1) p6 
(oSet (xLook (lkBuild q24 [((nat_lit 0), (nat_lit 1), g5), ((nat_lit 1), (nat_lit 1), g6)])) p7 
(oDo (xTurn (tnStore (nat_lit 2) g4 g7)) 
oEnd)))) kRet))⟩
noncomputable def k32 : KFun := ⟨[rTmp (nat_lit 4) g4], (kSeq (oSet (xTurn (tnBox g0)) p2 
(oSet (xMove q0) p4 
oEnd)) (kSeq (oSet (xLook (lkFieldAddr (nat_lit 0) g2)) p5 
(oSet (xLook (lkFieldAddr (nat_lit 1) g5)) p6 
(oSet (xLook (lkLoad1 g6)) p7 
(oSet (xLook (lkEq false .str g7 q5)) p8 
(oSet (xMove g8) p9 
(oSetIf (wantF g9) (xMove g1) p10 
(oSetIf (wantF g9) (xLook (lkFieldAddr (nat_lit 0) g2)) p11 
(oSetIf (wantF g9) (xLook (lkFieldAddr (nat_lit 1) g11)) p12 
(oSetIf (wantF g9) (xLook (lkLoad1 g12)) p13 
(oSetIf (wantF g9) (xLook (lkBin .lss g10 g13)) p14 
(oSet (xLook (lkPick g9 q31 g14)) p15 
(oSet (xMove g15) p4 
oEnd)))))))))))) kRet))⟩
def q33 : OpdF := kC (.func (.func (nat_lit 40)) ⟨[]⟩ ⟨[]⟩)
def q34 : OpdF := kC (.func (.func (nat_lit 39)) ⟨[]⟩ ⟨[]⟩)
def q35 : OpdF := kC (.func (.func (nat_lit 41)) ⟨[]⟩ ⟨[]⟩)
def q36 : OpdF := kC (.func (.func (nat_lit 42)) ⟨[]⟩ ⟨[]⟩)
noncomputable def k34d0 : KD := 
(dLook (nat_lit 21) [] [] (lkPick g23 g41 q0) p42 (dEnd [(nat_lit 21), (nat_lit 22), (nat_lit 23), (nat_lit 24), (nat_lit 25), (nat_lit 26), (nat_lit 27), (nat_lit 28), (nat_lit 29), (nat_lit 30), (nat_lit 31), (nat_lit 32), (nat_lit 33), (nat_lit 34), (nat_lit 35), (nat_lit 36), (nat_lit 37), (nat_lit 38), (nat_lit 39), (nat_lit 40), (nat_lit 41), (nat_lit 42)]))
noncomputable def k34d1 : KD := 
(dIf [] (wantT g23) p41 (dLook (nat_lit 20) [] [] (lkPick g31 q31 g40) p41 k34d0) k34d0)
noncomputable def k34d2 : KD := 
(dIf [] (wantF g31) p40 (dLook (nat_lit 19) [] [] (lkBin .leq g33 g39) p40 k34d1) k34d1)
noncomputable def k34d3 : KD := 
(dIf [] (wantF g31) p39 (dLook (nat_lit 18) [] [] (lkLoad1 g38) p39 k34d2) k34d2)
noncomputable def k34d4 : KD := 
(dIf [] (wantF g31) p38 (dLook (nat_lit 17) [] [] (lkFieldAddr (nat_lit 1) g37) p38 k34d3) k34d3)
noncomputable def k34d5 : KD := 
(dIf [] (wantF g31) p37 (dLook (nat_lit 16) [] [] (lkIxSl (nat_lit 2) g34 g36) p37 k34d4) k34d4)
noncomputable def k34d6 : KD := 
(dIf [] (wantF g31) p36 (dLook (nat_lit 15) [] [] (lkBin .sub g35 q30) p36 k34d5) k34d5)
noncomputable def k34d7 : KD := 
(dIf [] (wantF g31) p35 (dLook (nat_lit 14) [] [] (lkMove g6) p35 k34d6) k34d6)
noncomputable def k34d8 : KD := 
(dIf [] (wantF g31) p34 (dLook (nat_lit 13) [] [] (lkMove g3) p34 k34d7) k34d7)
noncomputable def k34d9 : KD := 
(dIf [] (wantF g31) p33 (dLook (nat_lit 12) [] [] (lkLoad1 g32) p33 k34d8) k34d8)
noncomputable def k34d10 : KD := 
(dIf [] (wantF g31) p32 (dLook (nat_lit 11) [] [] (lkFieldAddr (nat_lit 0) g5) p32 k34d9) k34d9)
noncomputable def k34d11 : KD := 
(dIf [] (wantT g23) p31 (dLook (nat_lit 10) [] [] (lkMove g30) p31 k34d10) k34d10)
noncomputable def k34d12 : KD := 
(dIf [] (wantT g23) p30 (dLook (nat_lit 9) [] [] (lkEq false .str g29 q5) p30 k34d11) k34d11)
noncomputable def k34d13 : KD := 
(dIf [] (wantT g23) p29 (dLook (nat_lit 8) [] [] (lkLoad1 g28) p29 k34d12) k34d12)
noncomputable def k34d14 : KD := 
(dIf [] (wantT g23) p28 (dLook (nat_lit 7) [] [] (lkFieldAddr (nat_lit 1) g27) p28 k34d13) k34d13)
noncomputable def k34d15 : KD := 
(dIf [] (wantT g23) p27 (dLook (nat_lit 6) [] [] (lkIxSl (nat_lit 2) g24 g26) p27 k34d14) k34d14)
noncomputable def k34d16 : KD := 
(dIf [] (wantT g23) p26 (dLook (nat_lit 5) [] [] (lkBin .sub g25 q30) p26 k34d15) k34d15)
noncomputable def k34d17 : KD := 
(dIf [] (wantT g23) p25 (dLook (nat_lit 4) [] [] (lkMove g6) p25 k34d16) k34d16)
noncomputable def k34d18 : KD := 
(dLook (nat_lit 18) [] [] (lkPick g52 g64 q0) p65 (dEnd [(nat_lit 47), (nat_lit 48), (nat_lit 49), (nat_lit 50), (nat_lit 51), (nat_lit 52), (nat_lit 53), (nat_lit 54), (nat_lit 55), (nat_lit 56), (nat_lit 57), (nat_lit 58), (nat_lit 59), (nat_lit 60), (nat_lit 61), (nat_lit 62), (nat_lit 63), (nat_lit 64), (nat_lit 65)]))
noncomputable def k34d19 : KD := 
(dIf [] (wantT g52) p64 (dLook (nat_lit 17) [] [] (lkPick g56 q31 g63) p64 k34d18) k34d18)
noncomputable def k34d20 : KD := 
(dIf [] (wantF g56) p63 (dLook (nat_lit 16) [] [] (lkBin .gtr g58 g62) p63 k34d19) k34d19)
noncomputable def k34d21 : KD := 
(dIf [] (wantF g56) p62 (dLook (nat_lit 15) [] [] (lkLoad1 g61) p62 k34d20) k34d20)
noncomputable def k34d22 : KD := 
(dIf [] (wantF g56) p61 (dLook (nat_lit 14) [] [] (lkFieldAddr (nat_lit 1) g60) p61 k34d21) k34d21)
noncomputable def k34d23 : KD := 
(dIf [] (wantF g56) p60 (dTurn (nat_lit 13) [] [] false (xNil g59) p60 k34d22) k34d22)
noncomputable def k34d24 : KD := 
(dIf [] (wantF g56) p59 (dLook (nat_lit 12) [] [] (lkMove g7) p59 k34d23) k34d23)
noncomputable def k34d25 : KD := 
(dIf [] (wantF g56) p58 (dLook (nat_lit 11) [] [] (lkLoad1 g57) p58 k34d24) k34d24)
noncomputable def k34d26 : KD := 
(dIf [] (wantF g56) p57 (dLook (nat_lit 10) [] [] (lkFieldAddr (nat_lit 1) g5) p57 k34d25) k34d25)
noncomputable def k34d27 : KD := 
(dIf [] (wantT g52) p56 (dLook (nat_lit 9) [] [] (lkMove g55) p56 k34d26) k34d26)
noncomputable def k34d28 : KD := 
(dIf [] (wantT g52) p55 (dLook (nat_lit 8) [] [] (lkEq false .str g54 q5) p55 k34d27) k34d27)
noncomputable def k34d29 : KD := 
(dIf [] (wantT g52) p54 (dLook (nat_lit 7) [] [] (lkLoad1 g53) p54 k34d28) k34d28)
noncomputable def k34 : KFun := ⟨[rTmp (nat_lit 2) g2], (kSeq (oSet (xMove q27) p2 
oEnd) (kSeq (oSet (xMove g0) p8 
(oSet (xCall q33 [g8]) p9 
(oSet (xCall q34 [g9, q7]) p10 
(oSet (xMove g10) p0 
oEnd)))) (kSeq (oSet (xMove g0) p11 
(oSet (xCall q35 [g11, q36]) p12 
oEnd)) (kSeq (oSet (xMove q27) p3 
oEnd) (kSeq (kSeq (oSet (xMove g0) p13 
(oSet (xLook (lkLen .sl g13)) p14 
(oSet (xMove q29) p15 
oEnd))) (kBlock (nat_lit 0) (kLoop (kSeq (oSet (xLook (lkBin .lss g15 g14)) p16 
oEnd) (kSeq (kCond g16 kSkip (kExit (nat_lit 0))) (kSeq (kBlock (nat_lit 1) (kSeq (oSet (xLook (lkIxSl (nat_lit 2) g13 g15)) p17 
(oSet (xLook (lkLoadN (nat_lit 2) g17)) p18 
(oSet (xTurn (tnAlloc q24)) p5 
(oDo (xTurn (tnStore (nat_lit 2) g5 g18)) 
oEnd)))) (kSeq (kSeq (oSet (xMove g3) p19 
(oSet (xLook (lkLen .sl g19)) p20 
(oSet (xMove g20) p6 
oEnd))) (kSeq (kDraw 
(dLook (nat_lit 0) [] [] (lkMove g6) p21 
(dLook (nat_lit 1) [] [] (lkBin .gtr g21 q29) p22 
(dLook (nat_lit 2) [] [] (lkMove g22) p23 
(dIf [] (wantT g23) p24 (dLook (nat_lit 3) [] [] (lkMove g3) p24 k34d17) k34d17))))) (kCond g42 (kSeq (kSeq (oSet (xMove g3) p43 
(oSet (xMove g6) p44 
(oSet (xLook (lkBin .sub g44 q30)) p45 
(oSet (xLook (lkIxSl (nat_lit 2) g43 g45)) p46 
(oSet (xMove g46) p7 
oEnd))))) (kSeq (kDraw 
(dLook (nat_lit 0) [] [] (lkMove g7) p47 
(dTurn (nat_lit 1) [] [] false (xNil g47) p48 
(dLook (nat_lit 2) [] [] (lkFieldAddr (nat_lit 1) g48) p49 
(dLook (nat_lit 3) [] [] (lkLoad1 g49) p50 
(dLook (nat_lit 4) [] [] (lkEq true .str g50 q5) p51 
(dLook (nat_lit 5) [] [] (lkMove g51) p52 
(dIf [] (wantT g52) p53 (dLook (nat_lit 6) [] [] (lkFieldAddr (nat_lit 1) g5) p53 k34d29) k34d29)))))))) (kCond g65 (oSet (xMove g7) p66 
(oSet (xLook (lkFieldAddr (nat_lit 1) g5)) p67 
(oSet (xLook (lkLoad1 g67)) p68 
(oSet (xNil g66) p69 
(oSet (xLook (lkFieldAddr (nat_lit 1) g69)) p70 
(oDo (xTurn (tnStore (nat_lit 1) g70 g68)) 
oEnd)))))) kSkip))) (kExit (nat_lit 1))) kSkip))) (oSet (xMove g3) p71 
(oSet (xLook (lkLoadN (nat_lit 2) g5)) p72 
(oSet (xTurn (tnBuildSlice q24 [((nat_lit 0), (nat_lit 2), g72)] (nat_lit 1))) p73 
(oSet (xTurn (tnAppend (nat_lit 2) g71 g73)) p74 
(oSet (xMove g74) p3 
oEnd)))))))) (oSet (xLook (lkBin .add g15 q30)) p75 
(oSet (xMove g75) p15 
oEnd)))))))) (kSeq (oSet (xMove g3) p76 
(oSet (xMove g76) p2 
oEnd)) kRet))))))⟩
def q37 : OpdF := kC (.func (.func (nat_lit 45)) ⟨[]⟩ ⟨[]⟩)
noncomputable def k36 : KFun := ⟨[rTmp (nat_lit 4) g4], (kSeq (oSet (xMove q0) p4 
oEnd) (kSeq (oSet (xMove g0) p5 
(oSet (xMove g1) p6 
(oSet (xCall q37 [g5, g6]) p7 
(oSet (xLook (lkBin .geq g7 q29)) p8 
(oSet (xMove g8) p4 
oEnd))))) kRet))⟩
noncomputable def k38 : KFun := ⟨[rTmp (nat_lit 3) g3], (kSeq (oSet (xTurn (tnBox g0)) p2 
(oSet (xMove q0) p3 
oEnd)) (kSeq (oSet (xLook (lkFieldAddr (nat_lit 0) g2)) p4 
(oSet (xLook (lkLoad1 g4)) p5 
(oSet (xLook (lkFieldAddr (nat_lit 0) g1)) p6 
(oSet (xLook (lkLoad1 g6)) p7 
(oSet (xLook (lkBin .leq g5 g7)) p8 
(oSet (xMove g8) p9 
(oSetIf (wantT g9) (xLook (lkFieldAddr (nat_lit 1) g2)) p10 
(oSetIf (wantT g9) (xLook (lkLoad1 g10)) p11 
(oSetIf (wantT g9) (xLook (lkEq false .str g11 q5)) p12 
(oSetIf (wantT g9) (xMove g12) p13 
(oSetIf (wantF g13) (xLook (lkFieldAddr (nat_lit 1) g1)) p14 
(oSetIf (wantF g13) (xLook (lkLoad1 g14)) p15 
(oSetIf (wantF g13) (xLook (lkEq true .str g15 q5)) p16 
(oSetIf (wantF g13) (xMove g16) p17 
(oSetIf (wantT g17) (xLook (lkFieldAddr (nat_lit 1) g1)) p18 
(oSetIf (wantT g17) (xLook (lkLoad1 g18)) p19 
(oSetIf (wantT g17) (xLook (lkFieldAddr (nat_lit 1) g2)) p20 
(oSetIf (wantT g17) (xLook (lkLoad1 g20)) p21 
(oSetIf (wantT g17) (xLook (lkBin .leq g19 g21)) p22 
(oSetIf (wantF g13) (xLook (lkPick g17 g22 q0)) p23 
(oSetIf (wantT g9) (xLook (lkPick g13 q31 g23)) p24 
(oSet (xLook (lkPick g9 g24 q0)) p25 
(oSet (xMove g25) p3 
oEnd))))))))))))))))))))))) kRet))⟩
def q38 : OpdF := kC (.int .i64 (.negSucc (nat_lit 0)))
noncomputable def k39 : KFun := ⟨[rTmp (nat_lit 4) g4], (kSeq (oSet (xMove q27) p4 
oEnd) (kSeq (oSet (xMove g0) p8 
(oSet (xMove g1) p9 
(oSet (xCall q37 [g8, g9]) p10 
(oSet (xMove g10) p5 
oEnd)))) (kSeq (kSeq (oSet (xMove g5) p11 
(oSet (xLook (lkEq false .int g11 q38)) p12 
oEnd)) (kCond g12 (kSeq (oSet (xMove g0) p13 
(oSet (xMove g13) p4 
oEnd)) kRet) kSkip)) (kSeq (kSeq (oSet (xMove g5) p14 
(oSet (xLook (lkBin .add g14 q30)) p15 
(oSet (xMove g15) p6 
oEnd))) (kBlock (nat_lit 0) (kLoop (kSeq (kSeq (oSet (xMove g6) p16 
(oSet (xMove g0) p17 
(oSet (xLook (lkLen .sl g17)) p18 
(oSet (xLook (lkBin .lss g16 g18)) p19 
oEnd)))) (kCond g19 kSkip (kExit (nat_lit 0)))) (kSeq (kBlock (nat_lit 1) (kSeq (oSet (xMove g0) p22 
(oSet (xMove g6) p23 
(oSet (xLook (lkIxSl (nat_lit 2) g22 g23)) p24 
(oSet (xLook (lkLoadN (nat_lit 2) g24)) p25 
(oSet (xTurn (tnAlloc q24)) p7 
(oDo (xTurn (tnStore (nat_lit 2) g7 g25)) 
oEnd)))))) (kSeq (oSet (xMove g1) p26 
(oSet (xLook (lkLoadN (nat_lit 2) g7)) p27 
(oSet (xCall g26 [g27]) p28 
(oSet (xLook (lkUn .not g28)) p29 
oEnd)))) (kCond g29 (kSeq (oSet (xMove g0) p30 
(oSet (xMove g5) p31 
(oSet (xLook (lkLoadN (nat_lit 2) g7)) p32 
(oSet (xLook (lkIxSl (nat_lit 2) g30 g31)) p33 
(oDo (xTurn (tnStore (nat_lit 2) g33 g32)) 
oEnd))))) (oSet (xMove g5) p34 
(oSet (xLook (lkBin .add g34 q30)) p35 
(oSet (xMove g35) p5 
oEnd)))) kSkip)))) (oSet (xMove g6) p20 
(oSet (xLook (lkBin .add g20 q30)) p21 
(oSet (xMove g21) p6 
oEnd)))))))) (kSeq (oSet (xMove g0) p36 
(oSet (xMove g5) p37 
(oSet (xLook (lkSliceSl (nat_lit 2) g36 (some g37) none none)) p38 
(oDo (xTurn (tnClear q24 g38)) 
oEnd)))) (kSeq (oSet (xMove g0) p39 
(oSet (xMove g5) p40 
(oSet (xLook (lkSliceSl (nat_lit 2) g39 none (some g40) none)) p41 
(oSet (xMove g41) p4 
oEnd)))) kRet))))))⟩
noncomputable def k40 : KFun := ⟨[rTmp (nat_lit 2) g2], (kSeq (oSet (xMove q27) p2 
oEnd) (kSeq (kSeq (oSet (xMove g0) p3 
(oSet (xLook (lkEq false .slice g3 q27)) p4 
oEnd)) (kCond g4 (kSeq (oSet (xMove q27) p2 
oEnd) kRet) kSkip)) (kSeq (oSet (xTurn (tnBuildSlice [] [] (nat_lit 0))) p5 
(oSet (xMove g0) p6 
(oSet (xTurn (tnAppend (nat_lit 2) g5 g6)) p7 
(oSet (xMove g7) p2 
oEnd)))) kRet)))⟩
def q39 : OpdF := kC (.func (.func (nat_lit 47)) ⟨[]⟩ ⟨[]⟩)
def q40 : OpdF := kC (.func (.func (nat_lit 46)) ⟨[]⟩ ⟨[]⟩)
noncomputable def k41 : KFun := ⟨[], (kSeq (oSet (xMove g0) p5 
(oSet (xLook (lkLen .sl g5)) p6 
(oSet (xMove g6) p4 
oEnd))) (oSet (xMove g0) p7 
(oSet (xMove g4) p8 
(oSet (xMove g4) p9 
(oSet (xLook (lkIntTo .u64 g9)) p10 
(oSet (xCall q39 [g10]) p11 
(oSet (xMove g1) p12 
(oSet (xCall q40 [g7, q29, g8, g11, g12]) p13 
oEnd))))))))⟩
def q41 : OpdF := kC (.func (.func (nat_lit 43)) ⟨[]⟩ ⟨[]⟩)
def q42 : List Value := [(.int .i64 (.ofNat (nat_lit 0))), (.int .i64 (.ofNat (nat_lit 0)))]
def q43 : OpdF := kC (.func (.func (nat_lit 44)) ⟨[]⟩ ⟨[]⟩)
noncomputable def k42 : KFun := ⟨[rTmp (nat_lit 4) g4], (kSeq (oSet (xTurn (tnBox g0)) p2 
(oSet (xTurn (tnBox g1)) p3 
(oSet (xMove q29) p4 
oEnd))) (kSeq (kDraw 
(dLook (nat_lit 0) [] [] (lkFieldAddr (nat_lit 0) g2) p5 
(dLook (nat_lit 1) [] [] (lkLoad1 g5) p6 
(dLook (nat_lit 2) [] [] (lkFieldAddr (nat_lit 0) g3) p7 
(dLook (nat_lit 3) [] [] (lkLoad1 g7) p8 
(dTurn (nat_lit 4) [] [] true (xCall q43 [g6, g8]) p9 
(dLook (nat_lit 5) [] [] (lkFieldAddr (nat_lit 1) g2) p10 
(dLook (nat_lit 6) [(nat_lit 4)] [] (lkLoad1 g10) p11 
(dLook (nat_lit 7) [] [] (lkFieldAddr (nat_lit 1) g3) p12 
(dLook (nat_lit 8) [(nat_lit 4)] [] (lkLoad1 g12) p13 
(dTurn (nat_lit 9) [] [(nat_lit 4)] true (xCall q43 [g11, g13]) p14 
(dTurn (nat_lit 10) [] [(nat_lit 4), (nat_lit 9)] false (xTurn (tnBuildSlice q42 [((nat_lit 0), (nat_lit 1), g9), ((nat_lit 1), (nat_lit 1), g14)] (nat_lit 2))) p15 
(dTurn (nat_lit 11) [] [(nat_lit 4), (nat_lit 9)] true (xCall q41 [g15]) p16 
(dLook (nat_lit 12) [] [(nat_lit 4), (nat_lit 9), (nat_lit 11)] (lkMove g16) p4 (dEnd [(nat_lit 5), (nat_lit 6), (nat_lit 7), (nat_lit 8), (nat_lit 9), (nat_lit 10), (nat_lit 11), (nat_lit 12), (nat_lit 13), (nat_lit 14), (nat_lit 15), (nat_lit 16), (nat_lit 4)]))))))))))))))) kRet))⟩
noncomputable def k43 : KFun := ⟨[rTmp (nat_lit 2) g2], (kSeq (oSet (xMove q29) p2 
oEnd) (kSeq (oSet (xMove q29) p3 
oEnd) (kSeq (kSeq (oSet (xMove g0) p6 
(oSet (xLook (lkLen .sl g6)) p7 
(oSet (xMove q29) p8 
oEnd))) (kBlock (nat_lit 0) (kLoop (kSeq (oSet (xLook (lkBin .lss g8 g7)) p9 
oEnd) (kSeq (kCond g9 kSkip (kExit (nat_lit 0))) (kSeq (kBlock (nat_lit 1) (kSeq (oSet (xLook (lkIxSl (nat_lit 1) g6 g8)) p10 
(oSet (xLook (lkLoad1 g10)) p11 
(oSet (xMove g11) p5 
oEnd))) (kSeq (oSet (xMove g5) p12 
(oSet (xMove g3) p13 
(oSet (xLook (lkEq true .int g12 g13)) p14 
oEnd))) (kCond g14 (kSeq (oSet (xMove g5) p15 
(oSet (xMove g15) p2 
oEnd)) kRet) kSkip)))) (oSet (xLook (lkBin .add g8 q30)) p16 
(oSet (xMove g16) p8 
oEnd)))))))) (kSeq (oSet (xMove g3) p17 
(oSet (xMove g17) p2 
oEnd)) kRet))))⟩
def q44 : OpdF := kC (.func (.func (nat_lit 48)) ⟨[]⟩ ⟨[]⟩)
noncomputable def k44 : KFun := ⟨[rTmp (nat_lit 4) g4], (kSeq (oSet (xMove q29) p4 
oEnd) (kSeq (oSet (xMove g0) p7 
(oSet (xCall q44 [g7]) p8 
(oSet (xMove g8) p5 
oEnd))) (kSeq (oSet (xMove g1) p9 
(oSet (xCall q44 [g9]) p10 
(oSet (xMove g10) p6 
oEnd))) (kSeq (kSeq (oSet (xMove g5) p11 
oEnd) (kCond g11 (kSeq (kSeq (oSet (xMove g6) p12 
oEnd) (kCond g12 (kSeq (oSet (xMove q29) p4 
oEnd) kRet) kSkip)) (kSeq (oSet (xMove q38) p4 
oEnd) kRet)) kSkip)) (kSeq (kSeq (oSet (xMove g6) p13 
oEnd) (kCond g13 (kSeq (oSet (xMove q30) p4 
oEnd) kRet) kSkip)) (kSeq (kSeq (oSet (xMove g0) p14 
(oSet (xMove g1) p15 
(oSet (xLook (lkBin .lss g14 g15)) p16 
oEnd))) (kCond g16 (kSeq (oSet (xMove q38) p4 
oEnd) kRet) kSkip)) (kSeq (kSeq (oSet (xMove g0) p17 
(oSet (xMove g1) p18 
(oSet (xLook (lkBin .gtr g17 g18)) p19 
oEnd))) (kCond g19 (kSeq (oSet (xMove q30) p4 
oEnd) kRet) kSkip)) (kSeq (oSet (xMove q29) p4 
oEnd) kRet))))))))⟩
noncomputable def k45 : KFun := ⟨[rTmp (nat_lit 4) g4], (kSeq (oSet (xMove q29) p4 
oEnd) (kSeq (kSeq (oSet (xMove g0) p6 
(oSet (xLook (lkLen .sl g6)) p7 
(oSet (xMove q29) p8 
oEnd))) (kBlock (nat_lit 0) (kLoop (kSeq (oSet (xLook (lkBin .lss g8 g7)) p9 
oEnd) (kSeq (kCond g9 kSkip (kExit (nat_lit 0))) (kSeq (kBlock (nat_lit 1) (kSeq (oSet (xMove g8) p10 
(oSet (xMove g10) p5 
oEnd)) (kSeq (oSet (xMove g1) p11 
(oSet (xMove g0) p12 
(oSet (xMove g5) p13 
(oSet (xLook (lkIxSl (nat_lit 2) g12 g13)) p14 
(oSet (xLook (lkLoadN (nat_lit 2) g14)) p15 
(oSet (xCall g11 [g15]) p16 
oEnd)))))) (kCond g16 (kSeq (oSet (xMove g5) p17 
(oSet (xMove g17) p4 
oEnd)) kRet) kSkip)))) (oSet (xLook (lkBin .add g8 q30)) p18 
(oSet (xMove g18) p8 
oEnd)))))))) (kSeq (oSet (xMove q38) p4 
oEnd) kRet)))⟩
def q45 : OpdF := kC (.int .i64 (.ofNat (nat_lit 12)))
def q46 : OpdF := kC (.func (.func (nat_lit 49)) ⟨[]⟩ ⟨[]⟩)
def q47 : OpdF := kC (.func (.func (nat_lit 50)) ⟨[]⟩ ⟨[]⟩)
def q48 : OpdF := kC (.func (.func (nat_lit 51)) ⟨[]⟩ ⟨[]⟩)
def q49 : OpdF := kC (.func (.func (nat_lit 52)) ⟨[]⟩ ⟨[]⟩)
def q50 : OpdF := kC (.int .i64 (.ofNat (nat_lit 2)))
def q51 : OpdF := kC (.func (.func (nat_lit 53)) ⟨[]⟩ ⟨[]⟩)
def q52 : OpdF := kC (.func (.func (nat_lit 54)) ⟨[]⟩ ⟨[]⟩)
noncomputable def k46d0 : KD := 
(dLook (nat_lit 16) [] [(nat_lit 13)] (lkPick g83 g96 q0) p97 (dEnd [(nat_lit 81), (nat_lit 82), (nat_lit 83), (nat_lit 84), (nat_lit 85), (nat_lit 86), (nat_lit 87), (nat_lit 88), (nat_lit 89), (nat_lit 90), (nat_lit 91), (nat_lit 92), (nat_lit 93), (nat_lit 94), (nat_lit 95), (nat_lit 96), (nat_lit 97)]))
noncomputable def k46d1 : KD := 
(dIf [(nat_lit 13)] (wantT g83) p96 (dLook (nat_lit 15) [] [(nat_lit 13)] (lkUn .not g95) p96 k46d0) k46d0)
noncomputable def k46d2 : KD := 
(dIf [(nat_lit 13)] (wantT g83) p95 (dLook (nat_lit 14) [] [(nat_lit 13)] (lkBin .lss g94 q29) p95 k46d1) k46d1)
noncomputable def k46d3 : KD := 
(dIf [] (wantT g83) p94 (dTurn (nat_lit 13) [] [] true (xCall g84 [g89, g93]) p94 k46d2) k46d2)
noncomputable def k46d4 : KD := 
(dIf [] (wantT g83) p93 (dLook (nat_lit 12) [] [] (lkLoadN (nat_lit 2) g92) p93 k46d3) k46d3)
noncomputable def k46d5 : KD := 
(dIf [] (wantT g83) p92 (dLook (nat_lit 11) [] [] (lkIxSl (nat_lit 2) g90 g91) p92 k46d4) k46d4)
noncomputable def k46d6 : KD := 
(dIf [] (wantT g83) p91 (dLook (nat_lit 10) [] [] (lkMove g13) p91 k46d5) k46d5)
noncomputable def k46d7 : KD := 
(dIf [] (wantT g83) p90 (dLook (nat_lit 9) [] [] (lkMove g0) p90 k46d6) k46d6)
noncomputable def k46d8 : KD := 
(dIf [] (wantT g83) p89 (dLook (nat_lit 8) [] [] (lkLoadN (nat_lit 2) g88) p89 k46d7) k46d7)
noncomputable def k46d9 : KD := 
(dIf [] (wantT g83) p88 (dLook (nat_lit 7) [] [] (lkIxSl (nat_lit 2) g85 g87) p88 k46d8) k46d8)
noncomputable def k46d10 : KD := 
(dIf [] (wantT g83) p87 (dLook (nat_lit 6) [] [] (lkBin .sub g86 q30) p87 k46d9) k46d9)
noncomputable def k46d11 : KD := 
(dIf [] (wantT g83) p86 (dLook (nat_lit 5) [] [] (lkMove g1) p86 k46d10) k46d10)
noncomputable def k46d12 : KD := 
(dIf [] (wantT g83) p85 (dLook (nat_lit 4) [] [] (lkMove g0) p85 k46d11) k46d11)
def q53 : OpdF := kC (.func (.func (nat_lit 55)) ⟨[]⟩ ⟨[]⟩)
def q54 : OpdF := kC (.func (.func (nat_lit 56)) ⟨[]⟩ ⟨[]⟩)
def q55 : OpdF := kC (.int .i64 (.ofNat (nat_lit 8)))
noncomputable def k46 : KFun := ⟨[], (kSeq (oSet (xMove q31) p10 
oEnd) (kSeq (oSet (xMove q31) p11 
oEnd) (kBlock (nat_lit 0) (kLoop (kBlock (nat_lit 1) (kSeq (oSet (xMove g2) p21 
(oSet (xMove g1) p22 
(oSet (xLook (lkBin .sub g21 g22)) p23 
(oSet (xMove g23) p12 
oEnd)))) (kSeq (kSeq (oSet (xMove g12) p24 
(oSet (xLook (lkBin .leq g24 q45)) p25 
oEnd)) (kCond g25 (kSeq (oSet (xMove g0) p26 
(oSet (xMove g1) p27 
(oSet (xMove g2) p28 
(oSet (xMove g4) p29 
(oSet (xCall q46 [g26, g27, g28, g29]) p30 
oEnd))))) kRet) kSkip)) (kSeq (kSeq (oSet (xMove g3) p31 
(oSet (xLook (lkEq false .int g31 q29)) p32 
oEnd)) (kCond g32 (kSeq (oSet (xMove g0) p33 
(oSet (xMove g1) p34 
(oSet (xMove g2) p35 
(oSet (xMove g4) p36 
(oSet (xCall q47 [g33, g34, g35, g36]) p37 
oEnd))))) kRet) kSkip)) (kSeq (kSeq (oSet (xMove g10) p38 
(oSet (xLook (lkUn .not g38)) p39 
oEnd)) (kCond g39 (kSeq (oSet (xMove g0) p40 
(oSet (xMove g1) p41 
(oSet (xMove g2) p42 
(oSet (xMove g4) p43 
(oSet (xCall q48 [g40, g41, g42, g43]) p44 
oEnd))))) (oSet (xMove g3) p45 
(oSet (xLook (lkBin .sub g45 q30)) p46 
(oSet (xMove g46) p3 
oEnd)))) kSkip)) (kSeq (oSet (xMove g0) p48 
(oSet (xMove g1) p49 
(oSet (xMove g2) p50 
(oSet (xMove g4) p51 
(oSet (xCall q49 [g48, g49, g50, g51]) p52 
(oSet (xMove g52) p47 
(oSet (xLook (lkExtract (nat_lit 0) g47)) p53 
(oSet (xLook (lkExtract (nat_lit 1) g47)) p54 
(oSet (xMove g53) p13 
(oSet (xMove g54) p14 
oEnd)))))))))) (kSeq (kSeq (oSet (xMove g14) p55 
(oSet (xLook (lkEq false .int g55 q50)) p56 
oEnd)) (kCond g56 (kSeq (oSet (xMove g0) p57 
(oSet (xMove g1) p58 
(oSet (xMove g2) p59 
(oSet (xMove g4) p60 
(oSet (xCall q51 [g57, g58, g59, g60]) p61 
oEnd))))) (kSeq (oSet (xMove g2) p62 
(oSet (xLook (lkBin .sub g62 q30)) p63 
(oSet (xMove g13) p64 
(oSet (xMove g1) p65 
(oSet (xLook (lkBin .sub g64 g65)) p66 
(oSet (xLook (lkBin .sub g63 g66)) p67 
(oSet (xMove g67) p13 
oEnd))))))) (oSet (xMove q30) p14 
oEnd))) kSkip)) (kSeq (kSeq (oSet (xMove g10) p68 
(oSet (xMove g68) p69 
(oSetIf (wantT g69) (xMove g11) p70 
(oSet (xLook (lkPick g69 g70 q0)) p71 
(oSet (xMove g71) p72 
(oSetIf (wantT g72) (xMove g14) p73 
(oSetIf (wantT g72) (xLook (lkEq false .int g73 q30)) p74 
(oSet (xLook (lkPick g72 g74 q0)) p75 
oEnd)))))))) (kCond g75 (kSeq (oSet (xMove g0) p76 
(oSet (xMove g1) p77 
(oSet (xMove g2) p78 
(oSet (xMove g4) p79 
(oSet (xCall q52 [g76, g77, g78, g79]) p80 
oEnd))))) (kCond g80 kRet kSkip)) kSkip)) (kSeq (kSeq (kDraw 
(dLook (nat_lit 0) [] [] (lkMove g1) p81 
(dLook (nat_lit 1) [] [] (lkBin .gtr g81 q29) p82 
(dLook (nat_lit 2) [] [] (lkMove g82) p83 
(dIf [] (wantT g83) p84 (dLook (nat_lit 3) [] [] (lkMove g4) p84 k46d12) k46d12))))) (kCond g97 (kSeq (oSet (xMove g0) p98 
(oSet (xMove g1) p99 
(oSet (xMove g2) p100 
(oSet (xMove g13) p101 
(oSet (xMove g4) p102 
(oSet (xCall q53 [g98, g99, g100, g101, g102]) p103 
(oSet (xMove g103) p15 
oEnd))))))) (kSeq (oSet (xMove g15) p104 
(oSet (xMove g104) p1 
oEnd)) (kExit (nat_lit 1)))) kSkip)) (kSeq (oSet (xMove g0) p106 
(oSet (xMove g1) p107 
(oSet (xMove g2) p108 
(oSet (xMove g13) p109 
(oSet (xMove g4) p110 
(oSet (xCall q54 [g106, g107, g108, g109, g110]) p111 
(oSet (xMove g111) p105 
(oSet (xLook (lkExtract (nat_lit 0) g105)) p112 
(oSet (xLook (lkExtract (nat_lit 1) g105)) p113 
(oSet (xMove g112) p16 
(oSet (xMove g113) p17 
oEnd))))))))))) (kSeq (oSet (xMove g17) p114 
(oSet (xMove g114) p11 
oEnd)) (kSeq (oSet (xMove g16) p115 
(oSet (xMove g1) p116 
(oSet (xLook (lkBin .sub g115 g116)) p117 
(oSet (xMove g2) p118 
(oSet (xMove g16) p119 
(oSet (xLook (lkBin .sub g118 g119)) p120 
(oSet (xMove g117) p18 
(oSet (xMove g120) p19 
oEnd)))))))) (kSeq (oSet (xMove g12) p121 
(oSet (xLook (lkBin .quo g121 q55)) p122 
(oSet (xMove g122) p20 
oEnd))) (kSeq (oSet (xMove g18) p123 
(oSet (xMove g19) p124 
(oSet (xLook (lkBin .lss g123 g124)) p125 
oEnd))) (kCond g125 (kSeq (oSet (xMove g18) p126 
(oSet (xMove g20) p127 
(oSet (xLook (lkBin .geq g126 g127)) p128 
(oSet (xMove g128) p10 
oEnd)))) (kSeq (oSet (xMove g0) p129 
(oSet (xMove g1) p130 
(oSet (xMove g16) p131 
(oSet (xMove g3) p132 
(oSet (xMove g4) p133 
(oSet (xCall q40 [g129, g130, g131, g132, g133]) p134 
oEnd)))))) (oSet (xMove g16) p135 
(oSet (xLook (lkBin .add g135 q30)) p136 
(oSet (xMove g136) p1 
oEnd))))) (kSeq (oSet (xMove g19) p137 
(oSet (xMove g20) p138 
(oSet (xLook (lkBin .geq g137 g138)) p139 
(oSet (xMove g139) p10 
oEnd)))) (kSeq (oSet (xMove g0) p140 
(oSet (xMove g16) p141 
(oSet (xLook (lkBin .add g141 q30)) p142 
(oSet (xMove g2) p143 
(oSet (xMove g3) p144 
(oSet (xMove g4) p145 
(oSet (xCall q40 [g140, g142, g143, g144, g145]) p146 
oEnd))))))) (oSet (xMove g16) p147 
(oSet (xMove g147) p2 
oEnd)))))))))))))))))))))))⟩
def q56 : OpdF := kC (.func (.func (nat_lit 57)) ⟨[]⟩ ⟨[]⟩)
def q57 : OpdF := kC (.func (.func (nat_lit 58)) ⟨[]⟩ ⟨[]⟩)
noncomputable def k47 : KFun := ⟨[rTmp (nat_lit 2) g2], (kSeq (oSet (xMove q29) p2 
oEnd) (kSeq (kCond q0 (kSeq (oSet (xMove g0) p3 
(oSet (xLook (lkIntTo .u32 g3)) p4 
(oSet (xCall q56 [g4]) p5 
(oSet (xMove g5) p2 
oEnd)))) kRet) kSkip) (kSeq (oSet (xMove g0) p6 
(oSet (xCall q57 [g6]) p7 
(oSet (xMove g7) p2 
oEnd))) kRet)))⟩
noncomputable def k48 : KFun := ⟨[rTmp (nat_lit 2) g2], (kSeq (oSet (xMove q0) p2 
oEnd) (kSeq (oSet (xMove g0) p3 
(oSet (xMove g0) p4 
(oSet (xLook (lkEq true .str g3 g4)) p5 
(oSet (xMove g5) p2 
oEnd)))) kRet))⟩
noncomputable def k49d0 : KD := 
(dLook (nat_lit 16) [] [(nat_lit 14)] (lkPick g21 g33 q0) p34 (dEnd [(nat_lit 18), (nat_lit 19), (nat_lit 20), (nat_lit 21), (nat_lit 22), (nat_lit 23), (nat_lit 24), (nat_lit 25), (nat_lit 26), (nat_lit 27), (nat_lit 28), (nat_lit 29), (nat_lit 30), (nat_lit 31), (nat_lit 32), (nat_lit 33), (nat_lit 34)]))
noncomputable def k49d1 : KD := 
(dIf [(nat_lit 14)] (wantT g21) p33 (dLook (nat_lit 15) [] [(nat_lit 14)] (lkBin .lss g32 q29) p33 k49d0) k49d0)
noncomputable def k49d2 : KD := 
(dIf [] (wantT g21) p32 (dTurn (nat_lit 14) [] [] true (xCall g22 [g26, g31]) p32 k49d1) k49d1)
noncomputable def k49d3 : KD := 
(dIf [] (wantT g21) p31 (dLook (nat_lit 13) [] [] (lkLoadN (nat_lit 2) g30) p31 k49d2) k49d2)
noncomputable def k49d4 : KD := 
(dIf [] (wantT g21) p30 (dLook (nat_lit 12) [] [] (lkIxSl (nat_lit 2) g27 g29) p30 k49d3) k49d3)
noncomputable def k49d5 : KD := 
(dIf [] (wantT g21) p29 (dLook (nat_lit 11) [] [] (lkBin .sub g28 q30) p29 k49d4) k49d4)
noncomputable def k49d6 : KD := 
(dIf [] (wantT g21) p28 (dLook (nat_lit 10) [] [] (lkMove g9) p28 k49d5) k49d5)
noncomputable def k49d7 : KD := 
(dIf [] (wantT g21) p27 (dLook (nat_lit 9) [] [] (lkMove g0) p27 k49d6) k49d6)
noncomputable def k49d8 : KD := 
(dIf [] (wantT g21) p26 (dLook (nat_lit 8) [] [] (lkLoadN (nat_lit 2) g25) p26 k49d7) k49d7)
noncomputable def k49d9 : KD := 
(dIf [] (wantT g21) p25 (dLook (nat_lit 7) [] [] (lkIxSl (nat_lit 2) g23 g24) p25 k49d8) k49d8)
noncomputable def k49d10 : KD := 
(dIf [] (wantT g21) p24 (dLook (nat_lit 6) [] [] (lkMove g9) p24 k49d9) k49d9)
noncomputable def k49d11 : KD := 
(dIf [] (wantT g21) p23 (dLook (nat_lit 5) [] [] (lkMove g0) p23 k49d10) k49d10)
noncomputable def k49 : KFun := ⟨[], (kSeq (oSet (xMove g1) p10 
(oSet (xLook (lkBin .add g10 q30)) p11 
(oSet (xMove g11) p8 
oEnd))) (kBlock (nat_lit 0) (kLoop (kSeq (kSeq (oSet (xMove g8) p12 
(oSet (xMove g2) p13 
(oSet (xLook (lkBin .lss g12 g13)) p14 
oEnd))) (kCond g14 kSkip (kExit (nat_lit 0)))) (kSeq (kBlock (nat_lit 1) (kSeq (oSet (xMove g8) p17 
(oSet (xMove g17) p9 
oEnd)) (kBlock (nat_lit 2) (kLoop (kSeq (kSeq (kDraw 
(dLook (nat_lit 0) [] [] (lkMove g9) p18 
(dLook (nat_lit 1) [] [] (lkMove g1) p19 
(dLook (nat_lit 2) [] [] (lkBin .gtr g18 g19) p20 
(dLook (nat_lit 3) [] [] (lkMove g20) p21 
(dIf [] (wantT g21) p22 (dLook (nat_lit 4) [] [] (lkMove g3) p22 k49d11) k49d11)))))) (kCond g34 kSkip (kExit (nat_lit 2)))) (kSeq (kBlock (nat_lit 3) (kDraw 
(dLook (nat_lit 0) [] [] (lkMove g0) p37 
(dLook (nat_lit 1) [] [] (lkMove g9) p38 
(dLook (nat_lit 2) [] [] (lkMove g0) p39 
(dLook (nat_lit 3) [] [] (lkMove g9) p40 
(dLook (nat_lit 4) [] [] (lkBin .sub g40 q30) p41 
(dLook (nat_lit 5) [] [] (lkMove g0) p42 
(dLook (nat_lit 6) [] [] (lkMove g9) p43 
(dLook (nat_lit 7) [] [] (lkBin .sub g43 q30) p44 
(dLook (nat_lit 8) [] [] (lkIxSl (nat_lit 2) g42 g44) p45 
(dLook (nat_lit 9) [] [] (lkLoadN (nat_lit 2) g45) p46 
(dLook (nat_lit 10) [] [] (lkMove g0) p47 
(dLook (nat_lit 11) [] [] (lkMove g9) p48 
(dLook (nat_lit 12) [] [] (lkIxSl (nat_lit 2) g47 g48) p49 
(dLook (nat_lit 13) [] [] (lkLoadN (nat_lit 2) g49) p50 
(dLook (nat_lit 14) [] [] (lkIxSl (nat_lit 2) g37 g38) p51 
(dTurn (nat_lit 15) [] [] true (xTurn (tnStore (nat_lit 2) g51 g46)) noDst 
(dLook (nat_lit 16) [] [(nat_lit 15)] (lkIxSl (nat_lit 2) g39 g41) p52 
(dTurn (nat_lit 17) [] [(nat_lit 15)] true (xTurn (tnStore (nat_lit 2) g52 g50)) noDst (dEnd [(nat_lit 37), (nat_lit 38), (nat_lit 39), (nat_lit 40), (nat_lit 41), (nat_lit 42), (nat_lit 43), (nat_lit 44), (nat_lit 45), (nat_lit 46), (nat_lit 47), (nat_lit 48), (nat_lit 49), (nat_lit 50), (nat_lit 51), (nat_lit 52)]))))))))))))))))))))) (oSet (xMove g9) p35 
(oSet (xLook (lkBin .sub g35 q30)) p36 
(oSet (xMove g36) p9 
oEnd))))))))) (oSet (xMove g8) p15 
(oSet (xLook (lkBin .add g15 q30)) p16 
(oSet (xMove g16) p8 
oEnd))))))))⟩
def q58 : OpdF := kC (.func (.func (nat_lit 59)) ⟨[]⟩ ⟨[]⟩)
noncomputable def k50 : KFun := ⟨[], (kSeq (oSet (xMove g1) p13 
(oSet (xMove g13) p8 
oEnd)) (kSeq (oSet (xMove q29) p9 
oEnd) (kSeq (oSet (xMove g2) p14 
(oSet (xMove g1) p15 
(oSet (xLook (lkBin .sub g14 g15)) p16 
(oSet (xMove g16) p10 
oEnd)))) (kSeq (kSeq (oSet (xMove g10) p17 
(oSet (xLook (lkBin .sub g17 q30)) p18 
(oSet (xLook (lkBin .quo g18 q50)) p19 
(oSet (xMove g19) p11 
oEnd)))) (kBlock (nat_lit 0) (kLoop (kSeq (kSeq (oSet (xMove g11) p20 
(oSet (xLook (lkBin .geq g20 q29)) p21 
oEnd)) (kCond g21 kSkip (kExit (nat_lit 0)))) (kSeq (kBlock (nat_lit 1) (oSet (xMove g0) p24 
(oSet (xMove g11) p25 
(oSet (xMove g10) p26 
(oSet (xMove g8) p27 
(oSet (xMove g3) p28 
(oSet (xCall q58 [g24, g25, g26, g27, g28]) p29 
oEnd))))))) (oSet (xMove g11) p22 
(oSet (xLook (lkBin .sub g22 q30)) p23 
(oSet (xMove g23) p11 
oEnd)))))))) (kSeq (oSet (xMove g10) p30 
(oSet (xLook (lkBin .sub g30 q30)) p31 
(oSet (xMove g31) p12 
oEnd))) (kBlock (nat_lit 2) (kLoop (kSeq (kSeq (oSet (xMove g12) p32 
(oSet (xLook (lkBin .geq g32 q29)) p33 
oEnd)) (kCond g33 kSkip (kExit (nat_lit 2)))) (kSeq (kBlock (nat_lit 3) (kSeq (kDraw 
(dLook (nat_lit 0) [] [] (lkMove g0) p36 
(dLook (nat_lit 1) [] [] (lkMove g8) p37 
(dLook (nat_lit 2) [] [] (lkMove g0) p38 
(dLook (nat_lit 3) [] [] (lkMove g8) p39 
(dLook (nat_lit 4) [] [] (lkMove g12) p40 
(dLook (nat_lit 5) [] [] (lkBin .add g39 g40) p41 
(dLook (nat_lit 6) [] [] (lkMove g0) p42 
(dLook (nat_lit 7) [] [] (lkMove g8) p43 
(dLook (nat_lit 8) [] [] (lkMove g12) p44 
(dLook (nat_lit 9) [] [] (lkBin .add g43 g44) p45 
(dLook (nat_lit 10) [] [] (lkIxSl (nat_lit 2) g42 g45) p46 
(dLook (nat_lit 11) [] [] (lkLoadN (nat_lit 2) g46) p47 
(dLook (nat_lit 12) [] [] (lkMove g0) p48 
(dLook (nat_lit 13) [] [] (lkMove g8) p49 
(dLook (nat_lit 14) [] [] (lkIxSl (nat_lit 2) g48 g49) p50 
(dLook (nat_lit 15) [] [] (lkLoadN (nat_lit 2) g50) p51 
(dLook (nat_lit 16) [] [] (lkIxSl (nat_lit 2) g36 g37) p52 
(dTurn (nat_lit 17) [] [] true (xTurn (tnStore (nat_lit 2) g52 g47)) noDst 
(dLook (nat_lit 18) [] [(nat_lit 17)] (lkIxSl (nat_lit 2) g38 g41) p53 
(dTurn (nat_lit 19) [] [(nat_lit 17)] true (xTurn (tnStore (nat_lit 2) g53 g51)) noDst (dEnd [(nat_lit 36), (nat_lit 37), (nat_lit 38), (nat_lit 39), (nat_lit 40), (nat_lit 41), (nat_lit 42), (nat_lit 43), (nat_lit 44), (nat_lit 45), (nat_lit 46), (nat_lit 47), (nat_lit 48), (nat_lit 49), (nat_lit 50), (nat_lit 51), (nat_lit 52), (nat_lit 53)])))))))))))))))))))))) (oSet (xMove g0) p54 
(oSet (xMove g9) p55 
(oSet (xMove g12) p56 
(oSet (xMove g8) p57 
(oSet (xMove g3) p58 
(oSet (xCall q58 [g54, g55, g56, g57, g58]) p59 
oEnd)))))))) (oSet (xMove g12) p34 
(oSet (xLook (lkBin .sub g34 q30)) p35 
(oSet (xMove g35) p12 
oEnd))))))))))))⟩
def q59 : List Value := [(.int .u64 (.ofNat (nat_lit 0)))]
def q60 : OpdF := kC (.func (.func (nat_lit 60)) ⟨[]⟩ ⟨[]⟩)
def q61 : OpdF := kC (.int .i64 (.ofNat (nat_lit 4)))
def q62 : OpdF := kC (.func (.func (nat_lit 61)) ⟨[]⟩ ⟨[]⟩)
def q63 : OpdF := kC (.int .u64 (.ofNat (nat_lit 1)))
noncomputable def k51 : KFun := ⟨[], (kSeq (oSet (xMove g2) p13 
(oSet (xMove g1) p14 
(oSet (xLook (lkBin .sub g13 g14)) p15 
(oSet (xMove g15) p8 
oEnd)))) (kSeq (oSet (xMove g8) p16 
(oSet (xLook (lkBin .geq g16 q55)) p17 
oEnd)) (kCond g17 (kSeq (oSet (xMove g8) p18 
(oSet (xLook (lkIntTo .u64 g18)) p19 
(oSet (xTurn (tnAlloc q59)) p9 
(oDo (xTurn (tnStore (nat_lit 1) g9 g19)) 
oEnd)))) (kSeq (oSet (xMove g8) p20 
(oSet (xCall q60 [g20]) p21 
(oSet (xMove g21) p10 
oEnd))) (kSeq (oSet (xMove g1) p22 
(oSet (xMove g8) p23 
(oSet (xLook (lkBin .quo g23 q61)) p24 
(oSet (xLook (lkBin .mul g24 q50)) p25 
(oSet (xLook (lkBin .add g22 g25)) p26 
(oSet (xLook (lkBin .sub g26 q30)) p27 
(oSet (xMove g27) p11 
oEnd))))))) (kBlock (nat_lit 0) (kLoop (kSeq (kSeq (oSet (xMove g11) p28 
(oSet (xMove g1) p29 
(oSet (xMove g8) p30 
(oSet (xLook (lkBin .quo g30 q61)) p31 
(oSet (xLook (lkBin .mul g31 q50)) p32 
(oSet (xLook (lkBin .add g29 g32)) p33 
(oSet (xLook (lkBin .add g33 q30)) p34 
(oSet (xLook (lkBin .leq g28 g34)) p35 
oEnd)))))))) (kCond g35 kSkip (kExit (nat_lit 0)))) (kSeq (kBlock (nat_lit 1) (kSeq (oSet (xCall q62 [g9]) p38 
(oSet (xMove g10) p39 
(oSet (xLook (lkBin .sub g39 q63)) p40 
(oSet (xLook (lkBin .and g38 g40)) p41 
(oSet (xLook (lkIntTo .i64 g41)) p42 
(oSet (xMove g42) p12 
oEnd)))))) (kSeq (kSeq (oSet (xMove g12) p43 
(oSet (xMove g8) p44 
(oSet (xLook (lkBin .geq g43 g44)) p45 
oEnd))) (kCond g45 (oSet (xMove g12) p46 
(oSet (xMove g8) p47 
(oSet (xLook (lkBin .sub g46 g47)) p48 
(oSet (xMove g48) p12 
oEnd)))) kSkip)) (kDraw 
(dLook (nat_lit 0) [] [] (lkMove g0) p49 
(dLook (nat_lit 1) [] [] (lkMove g11) p50 
(dLook (nat_lit 2) [] [] (lkMove g0) p51 
(dLook (nat_lit 3) [] [] (lkMove g1) p52 
(dLook (nat_lit 4) [] [] (lkMove g12) p53 
(dLook (nat_lit 5) [] [] (lkBin .add g52 g53) p54 
(dLook (nat_lit 6) [] [] (lkMove g0) p55 
(dLook (nat_lit 7) [] [] (lkMove g1) p56 
(dLook (nat_lit 8) [] [] (lkMove g12) p57 
(dLook (nat_lit 9) [] [] (lkBin .add g56 g57) p58 
(dLook (nat_lit 10) [] [] (lkIxSl (nat_lit 2) g55 g58) p59 
(dLook (nat_lit 11) [] [] (lkLoadN (nat_lit 2) g59) p60 
(dLook (nat_lit 12) [] [] (lkMove g0) p61 
(dLook (nat_lit 13) [] [] (lkMove g11) p62 
(dLook (nat_lit 14) [] [] (lkIxSl (nat_lit 2) g61 g62) p63 
(dLook (nat_lit 15) [] [] (lkLoadN (nat_lit 2) g63) p64 
(dLook (nat_lit 16) [] [] (lkIxSl (nat_lit 2) g49 g50) p65 
(dTurn (nat_lit 17) [] [] true (xTurn (tnStore (nat_lit 2) g65 g60)) noDst 
(dLook (nat_lit 18) [] [(nat_lit 17)] (lkIxSl (nat_lit 2) g51 g54) p66 
(dTurn (nat_lit 19) [] [(nat_lit 17)] true (xTurn (tnStore (nat_lit 2) g66 g64)) noDst (dEnd [(nat_lit 49), (nat_lit 50), (nat_lit 51), (nat_lit 52), (nat_lit 53), (nat_lit 54), (nat_lit 55), (nat_lit 56), (nat_lit 57), (nat_lit 58), (nat_lit 59), (nat_lit 60), (nat_lit 61), (nat_lit 62), (nat_lit 63), (nat_lit 64), (nat_lit 65), (nat_lit 66)]))))))))))))))))))))))))) (oSet (xMove g11) p36 
(oSet (xLook (lkBin .add g36 q30)) p37 
(oSet (xMove g37) p11 
oEnd)))))))))) kSkip)))⟩
def q64 : List Value := [(.int .i64 (.ofNat (nat_lit 0)))]
def q65 : OpdF := kC (.int .i64 (.ofNat (nat_lit 3)))
def q66 : OpdF := kC (.int .i64 (.ofNat (nat_lit 50)))
def q67 : OpdF := kC (.func (.func (nat_lit 62)) ⟨[]⟩ ⟨[]⟩)
def q68 : OpdF := kC (.func (.func (nat_lit 63)) ⟨[]⟩ ⟨[]⟩)
noncomputable def k52 : KFun := ⟨[rTmp (nat_lit 8) g8, rTmp (nat_lit 9) g9], (kSeq (oSet (xMove q29) p8 
(oSet (xMove q29) p9 
oEnd)) (kSeq (oSet (xMove g2) p15 
(oSet (xMove g1) p16 
(oSet (xLook (lkBin .sub g15 g16)) p17 
(oSet (xMove g17) p10 
oEnd)))) (kSeq (oSet (xTurn (tnAlloc q64)) p11 
oEnd) (kSeq (oSet (xMove g1) p18 
(oSet (xMove g10) p19 
(oSet (xLook (lkBin .quo g19 q61)) p20 
(oSet (xLook (lkBin .mul g20 q30)) p21 
(oSet (xLook (lkBin .add g18 g21)) p22 
(oSet (xMove g22) p12 
oEnd)))))) (kSeq (oSet (xMove g1) p23 
(oSet (xMove g10) p24 
(oSet (xLook (lkBin .quo g24 q61)) p25 
(oSet (xLook (lkBin .mul g25 q50)) p26 
(oSet (xLook (lkBin .add g23 g26)) p27 
(oSet (xMove g27) p13 
oEnd)))))) (kSeq (oSet (xMove g1) p28 
(oSet (xMove g10) p29 
(oSet (xLook (lkBin .quo g29 q61)) p30 
(oSet (xLook (lkBin .mul g30 q65)) p31 
(oSet (xLook (lkBin .add g28 g31)) p32 
(oSet (xMove g32) p14 
oEnd)))))) (kSeq (kSeq (oSet (xMove g10) p33 
(oSet (xLook (lkBin .geq g33 q55)) p34 
oEnd)) (kCond g34 (kSeq (kSeq (oSet (xMove g10) p35 
(oSet (xLook (lkBin .geq g35 q66)) p36 
oEnd)) (kCond g36 (kSeq (oSet (xMove g0) p37 
(oSet (xMove g12) p38 
(oSet (xMove g3) p39 
(oSet (xCall q67 [g37, g38, g11, g39]) p40 
(oSet (xMove g40) p12 
oEnd))))) (kSeq (oSet (xMove g0) p41 
(oSet (xMove g13) p42 
(oSet (xMove g3) p43 
(oSet (xCall q67 [g41, g42, g11, g43]) p44 
(oSet (xMove g44) p13 
oEnd))))) (oSet (xMove g0) p45 
(oSet (xMove g14) p46 
(oSet (xMove g3) p47 
(oSet (xCall q67 [g45, g46, g11, g47]) p48 
(oSet (xMove g48) p14 
oEnd))))))) kSkip)) (oSet (xMove g0) p49 
(oSet (xMove g12) p50 
(oSet (xMove g13) p51 
(oSet (xMove g14) p52 
(oSet (xMove g3) p53 
(oSet (xCall q68 [g49, g50, g51, g52, g11, g53]) p54 
(oSet (xMove g54) p13 
oEnd)))))))) kSkip)) (kSeq (oSet (xLook (lkLoad1 g11)) p55 
oEnd) (kBlock (nat_lit 0) (kSeq (oSet (xLook (lkEq false .int g55 q29)) p58 
(oSet (xMove g58) p57 
oEnd)) (kCond g57 (kSeq (oSet (xMove g13) p59 
(oSet (xMove g59) p8 
(oSet (xMove q30) p9 
oEnd))) kRet) (kSeq (oSet (xLook (lkEq false .int g55 q45)) p61 
(oSet (xMove g61) p60 
oEnd)) (kCond g60 (kSeq (oSet (xMove g13) p62 
(oSet (xMove g62) p8 
(oSet (xMove q50) p9 
oEnd))) kRet) (kSeq (oSet (xMove g13) p56 
(oSet (xMove g56) p8 
(oSet (xMove q29) p9 
oEnd))) kRet))))))))))))))⟩
noncomputable def k53 : KFun := ⟨[], (kSeq (oSet (xMove g1) p10 
(oSet (xMove g10) p8 
oEnd)) (kSeq (oSet (xMove g2) p11 
(oSet (xLook (lkBin .sub g11 q30)) p12 
(oSet (xMove g12) p9 
oEnd))) (kBlock (nat_lit 0) (kLoop (kSeq (kSeq (oSet (xMove g8) p13 
(oSet (xMove g9) p14 
(oSet (xLook (lkBin .lss g13 g14)) p15 
oEnd))) (kCond g15 kSkip (kExit (nat_lit 0)))) (kBlock (nat_lit 1) (kSeq (kDraw 
(dLook (nat_lit 0) [] [] (lkMove g0) p16 
(dLook (nat_lit 1) [] [] (lkMove g8) p17 
(dLook (nat_lit 2) [] [] (lkMove g0) p18 
(dLook (nat_lit 3) [] [] (lkMove g9) p19 
(dLook (nat_lit 4) [] [] (lkMove g0) p20 
(dLook (nat_lit 5) [] [] (lkMove g9) p21 
(dLook (nat_lit 6) [] [] (lkIxSl (nat_lit 2) g20 g21) p22 
(dLook (nat_lit 7) [] [] (lkLoadN (nat_lit 2) g22) p23 
(dLook (nat_lit 8) [] [] (lkMove g0) p24 
(dLook (nat_lit 9) [] [] (lkMove g8) p25 
(dLook (nat_lit 10) [] [] (lkIxSl (nat_lit 2) g24 g25) p26 
(dLook (nat_lit 11) [] [] (lkLoadN (nat_lit 2) g26) p27 
(dLook (nat_lit 12) [] [] (lkIxSl (nat_lit 2) g16 g17) p28 
(dTurn (nat_lit 13) [] [] true (xTurn (tnStore (nat_lit 2) g28 g23)) noDst 
(dLook (nat_lit 14) [] [(nat_lit 13)] (lkIxSl (nat_lit 2) g18 g19) p29 
(dTurn (nat_lit 15) [] [(nat_lit 13)] true (xTurn (tnStore (nat_lit 2) g29 g27)) noDst (dEnd [(nat_lit 16), (nat_lit 17), (nat_lit 18), (nat_lit 19), (nat_lit 20), (nat_lit 21), (nat_lit 22), (nat_lit 23), (nat_lit 24), (nat_lit 25), (nat_lit 26), (nat_lit 27), (nat_lit 28), (nat_lit 29)])))))))))))))))))) (kSeq (oSet (xMove g8) p30 
(oSet (xLook (lkBin .add g30 q30)) p31 
(oSet (xMove g31) p8 
oEnd))) (oSet (xMove g9) p32 
(oSet (xLook (lkBin .sub g32 q30)) p33 
(oSet (xMove g33) p9 
oEnd)))))))))))⟩
def q69 : OpdF := kC (.int .i64 (.ofNat (nat_lit 5)))
noncomputable def k54d0 : KD := 
(dLook (nat_lit 17) [] [(nat_lit 14)] (lkPick g22 g35 q0) p36 (dEnd [(nat_lit 19), (nat_lit 20), (nat_lit 21), (nat_lit 22), (nat_lit 23), (nat_lit 24), (nat_lit 25), (nat_lit 26), (nat_lit 27), (nat_lit 28), (nat_lit 29), (nat_lit 30), (nat_lit 31), (nat_lit 32), (nat_lit 33), (nat_lit 34), (nat_lit 35), (nat_lit 36)]))
noncomputable def k54d1 : KD := 
(dIf [(nat_lit 14)] (wantT g22) p35 (dLook (nat_lit 16) [] [(nat_lit 14)] (lkUn .not g34) p35 k54d0) k54d0)
noncomputable def k54d2 : KD := 
(dIf [(nat_lit 14)] (wantT g22) p34 (dLook (nat_lit 15) [] [(nat_lit 14)] (lkBin .lss g33 q29) p34 k54d1) k54d1)
noncomputable def k54d3 : KD := 
(dIf [] (wantT g22) p33 (dTurn (nat_lit 14) [] [] true (xCall g23 [g27, g32]) p33 k54d2) k54d2)
noncomputable def k54d4 : KD := 
(dIf [] (wantT g22) p32 (dLook (nat_lit 13) [] [] (lkLoadN (nat_lit 2) g31) p32 k54d3) k54d3)
noncomputable def k54d5 : KD := 
(dIf [] (wantT g22) p31 (dLook (nat_lit 12) [] [] (lkIxSl (nat_lit 2) g28 g30) p31 k54d4) k54d4)
noncomputable def k54d6 : KD := 
(dIf [] (wantT g22) p30 (dLook (nat_lit 11) [] [] (lkBin .sub g29 q30) p30 k54d5) k54d5)
noncomputable def k54d7 : KD := 
(dIf [] (wantT g22) p29 (dLook (nat_lit 10) [] [] (lkMove g9) p29 k54d6) k54d6)
noncomputable def k54d8 : KD := 
(dIf [] (wantT g22) p28 (dLook (nat_lit 9) [] [] (lkMove g0) p28 k54d7) k54d7)
noncomputable def k54d9 : KD := 
(dIf [] (wantT g22) p27 (dLook (nat_lit 8) [] [] (lkLoadN (nat_lit 2) g26) p27 k54d8) k54d8)
noncomputable def k54d10 : KD := 
(dIf [] (wantT g22) p26 (dLook (nat_lit 7) [] [] (lkIxSl (nat_lit 2) g24 g25) p26 k54d9) k54d9)
noncomputable def k54d11 : KD := 
(dIf [] (wantT g22) p25 (dLook (nat_lit 6) [] [] (lkMove g9) p25 k54d10) k54d10)
noncomputable def k54d12 : KD := 
(dIf [] (wantT g22) p24 (dLook (nat_lit 5) [] [] (lkMove g0) p24 k54d11) k54d11)
noncomputable def k54 : KFun := ⟨[rTmp (nat_lit 8) g8], (kSeq (oSet (xMove q0) p8 
oEnd) (kSeq (oSet (xMove g1) p13 
(oSet (xLook (lkBin .add g13 q30)) p14 
(oSet (xMove g14) p9 
oEnd))) (kSeq (kSeq (oSet (xMove q29) p10 
oEnd) (kBlock (nat_lit 0) (kLoop (kSeq (kSeq (oSet (xMove g10) p15 
(oSet (xLook (lkBin .lss g15 q69)) p16 
oEnd)) (kCond g16 kSkip (kExit (nat_lit 0)))) (kSeq (kBlock (nat_lit 1) (kSeq (kBlock (nat_lit 2) (kLoop (kSeq (kSeq (kDraw 
(dLook (nat_lit 0) [] [] (lkMove g9) p19 
(dLook (nat_lit 1) [] [] (lkMove g2) p20 
(dLook (nat_lit 2) [] [] (lkBin .lss g19 g20) p21 
(dLook (nat_lit 3) [] [] (lkMove g21) p22 
(dIf [] (wantT g22) p23 (dLook (nat_lit 4) [] [] (lkMove g3) p23 k54d12) k54d12)))))) (kCond g36 kSkip (kExit (nat_lit 2)))) (kBlock (nat_lit 3) (oSet (xMove g9) p37 
(oSet (xLook (lkBin .add g37 q30)) p38 
(oSet (xMove g38) p9 
oEnd))))))) (kSeq (kSeq (oSet (xMove g9) p39 
(oSet (xMove g2) p40 
(oSet (xLook (lkEq false .int g39 g40)) p41 
oEnd))) (kCond g41 (kSeq (oSet (xMove q31) p8 
oEnd) kRet) kSkip)) (kSeq (kSeq (oSet (xMove g2) p42 
(oSet (xMove g1) p43 
(oSet (xLook (lkBin .sub g42 g43)) p44 
(oSet (xLook (lkBin .lss g44 q66)) p45 
oEnd)))) (kCond g45 (kSeq (oSet (xMove q0) p8 
oEnd) kRet) kSkip)) (kSeq (kDraw 
(dLook (nat_lit 0) [] [] (lkMove g0) p46 
(dLook (nat_lit 1) [] [] (lkMove g9) p47 
(dLook (nat_lit 2) [] [] (lkMove g0) p48 
(dLook (nat_lit 3) [] [] (lkMove g9) p49 
(dLook (nat_lit 4) [] [] (lkBin .sub g49 q30) p50 
(dLook (nat_lit 5) [] [] (lkMove g0) p51 
(dLook (nat_lit 6) [] [] (lkMove g9) p52 
(dLook (nat_lit 7) [] [] (lkBin .sub g52 q30) p53 
(dLook (nat_lit 8) [] [] (lkIxSl (nat_lit 2) g51 g53) p54 
(dLook (nat_lit 9) [] [] (lkLoadN (nat_lit 2) g54) p55 
(dLook (nat_lit 10) [] [] (lkMove g0) p56 
(dLook (nat_lit 11) [] [] (lkMove g9) p57 
(dLook (nat_lit 12) [] [] (lkIxSl (nat_lit 2) g56 g57) p58 
(dLook (nat_lit 13) [] [] (lkLoadN (nat_lit 2) g58) p59 
(dLook (nat_lit 14) [] [] (lkIxSl (nat_lit 2) g46 g47) p60 
(dTurn (nat_lit 15) [] [] true (xTurn (tnStore (nat_lit 2) g60 g55)) noDst 
(dLook (nat_lit 16) [] [(nat_lit 15)] (lkIxSl (nat_lit 2) g48 g50) p61 
(dTurn (nat_lit 17) [] [(nat_lit 15)] true (xTurn (tnStore (nat_lit 2) g61 g59)) noDst (dEnd [(nat_lit 46), (nat_lit 47), (nat_lit 48), (nat_lit 49), (nat_lit 50), (nat_lit 51), (nat_lit 52), (nat_lit 53), (nat_lit 54), (nat_lit 55), (nat_lit 56), (nat_lit 57), (nat_lit 58), (nat_lit 59), (nat_lit 60), (nat_lit 61)])))))))))))))))))))) (kSeq (kSeq (oSet (xMove g9) p62 
(oSet (xMove g1) p63 
(oSet (xLook (lkBin .sub g62 g63)) p64 
(oSet (xLook (lkBin .geq g64 q50)) p65 
oEnd)))) (kCond g65 (kSeq (oSet (xMove g9) p66 
(oSet (xLook (lkBin .sub g66 q30)) p67 
(oSet (xMove g67) p11 
oEnd))) (kBlock (nat_lit 4) (kLoop (kSeq (kSeq (oSet (xMove g11) p68 
(oSet (xLook (lkBin .geq g68 q30)) p69 
oEnd)) (kCond g69 kSkip (kExit (nat_lit 4)))) (kSeq (kBlock (nat_lit 5) (kSeq (kSeq (kDraw 
(dLook (nat_lit 0) [] [] (lkMove g3) p72 
(dLook (nat_lit 1) [] [] (lkMove g0) p73 
(dLook (nat_lit 2) [] [] (lkMove g11) p74 
(dLook (nat_lit 3) [] [] (lkIxSl (nat_lit 2) g73 g74) p75 
(dLook (nat_lit 4) [] [] (lkLoadN (nat_lit 2) g75) p76 
(dLook (nat_lit 5) [] [] (lkMove g0) p77 
(dLook (nat_lit 6) [] [] (lkMove g11) p78 
(dLook (nat_lit 7) [] [] (lkBin .sub g78 q30) p79 
(dLook (nat_lit 8) [] [] (lkIxSl (nat_lit 2) g77 g79) p80 
(dLook (nat_lit 9) [] [] (lkLoadN (nat_lit 2) g80) p81 
(dTurn (nat_lit 10) [] [] true (xCall g72 [g76, g81]) p82 
(dLook (nat_lit 11) [] [(nat_lit 10)] (lkBin .lss g82 q29) p83 
(dLook (nat_lit 12) [] [(nat_lit 10)] (lkUn .not g83) p84 (dEnd [(nat_lit 72), (nat_lit 73), (nat_lit 74), (nat_lit 75), (nat_lit 76), (nat_lit 77), (nat_lit 78), (nat_lit 79), (nat_lit 80), (nat_lit 81), (nat_lit 82), (nat_lit 83), (nat_lit 84)]))))))))))))))) (kCond g84 (kExit (nat_lit 4)) kSkip)) (kDraw 
(dLook (nat_lit 0) [] [] (lkMove g0) p85 
(dLook (nat_lit 1) [] [] (lkMove g11) p86 
(dLook (nat_lit 2) [] [] (lkMove g0) p87 
(dLook (nat_lit 3) [] [] (lkMove g11) p88 
(dLook (nat_lit 4) [] [] (lkBin .sub g88 q30) p89 
(dLook (nat_lit 5) [] [] (lkMove g0) p90 
(dLook (nat_lit 6) [] [] (lkMove g11) p91 
(dLook (nat_lit 7) [] [] (lkBin .sub g91 q30) p92 
(dLook (nat_lit 8) [] [] (lkIxSl (nat_lit 2) g90 g92) p93 
(dLook (nat_lit 9) [] [] (lkLoadN (nat_lit 2) g93) p94 
(dLook (nat_lit 10) [] [] (lkMove g0) p95 
(dLook (nat_lit 11) [] [] (lkMove g11) p96 
(dLook (nat_lit 12) [] [] (lkIxSl (nat_lit 2) g95 g96) p97 
(dLook (nat_lit 13) [] [] (lkLoadN (nat_lit 2) g97) p98 
(dLook (nat_lit 14) [] [] (lkIxSl (nat_lit 2) g85 g86) p99 
(dTurn (nat_lit 15) [] [] true (xTurn (tnStore (nat_lit 2) g99 g94)) noDst 
(dLook (nat_lit 16) [] [(nat_lit 15)] (lkIxSl (nat_lit 2) g87 g89) p100 
(dTurn (nat_lit 17) [] [(nat_lit 15)] true (xTurn (tnStore (nat_lit 2) g100 g98)) noDst (dEnd [(nat_lit 85), (nat_lit 86), (nat_lit 87), (nat_lit 88), (nat_lit 89), (nat_lit 90), (nat_lit 91), (nat_lit 92), (nat_lit 93), (nat_lit 94), (nat_lit 95), (nat_lit 96), (nat_lit 97), (nat_lit 98), (nat_lit 99), (nat_lit 100)])))))))))))))))))))))) (oSet (xMove g11) p70 
(oSet (xLook (lkBin .sub g70 q30)) p71 
(oSet (xMove g71) p11 
oEnd)))))))) kSkip)) (kSeq (oSet (xMove g2) p101 
(oSet (xMove g9) p102 
(oSet (xLook (lkBin .sub g101 g102)) p103 
(oSet (xLook (lkBin .geq g103 q50)) p104 
oEnd)))) (kCond g104 (kSeq (oSet (xMove g9) p105 
(oSet (xLook (lkBin .add g105 q30)) p106 
(oSet (xMove g106) p12 
oEnd))) (kBlock (nat_lit 6) (kLoop (kSeq (kSeq (oSet (xMove g12) p107 
(oSet (xMove g2) p108 
(oSet (xLook (lkBin .lss g107 g108)) p109 
oEnd))) (kCond g109 kSkip (kExit (nat_lit 6)))) (kSeq (kBlock (nat_lit 7) (kSeq (kSeq (kDraw 
(dLook (nat_lit 0) [] [] (lkMove g3) p112 
(dLook (nat_lit 1) [] [] (lkMove g0) p113 
(dLook (nat_lit 2) [] [] (lkMove g12) p114 
(dLook (nat_lit 3) [] [] (lkIxSl (nat_lit 2) g113 g114) p115 
(dLook (nat_lit 4) [] [] (lkLoadN (nat_lit 2) g115) p116 
(dLook (nat_lit 5) [] [] (lkMove g0) p117 
(dLook (nat_lit 6) [] [] (lkMove g12) p118 
(dLook (nat_lit 7) [] [] (lkBin .sub g118 q30) p119 
(dLook (nat_lit 8) [] [] (lkIxSl (nat_lit 2) g117 g119) p120 
(dLook (nat_lit 9) [] [] (lkLoadN (nat_lit 2) g120) p121 
(dTurn (nat_lit 10) [] [] true (xCall g112 [g116, g121]) p122 
(dLook (nat_lit 11) [] [(nat_lit 10)] (lkBin .lss g122 q29) p123 
(dLook (nat_lit 12) [] [(nat_lit 10)] (lkUn .not g123) p124 (dEnd [(nat_lit 112), (nat_lit 113), (nat_lit 114), (nat_lit 115), (nat_lit 116), (nat_lit 117), (nat_lit 118), (nat_lit 119), (nat_lit 120), (nat_lit 121), (nat_lit 122), (nat_lit 123), (nat_lit 124)]))))))))))))))) (kCond g124 (kExit (nat_lit 6)) kSkip)) (kDraw 
(dLook (nat_lit 0) [] [] (lkMove g0) p125 
(dLook (nat_lit 1) [] [] (lkMove g12) p126 
(dLook (nat_lit 2) [] [] (lkMove g0) p127 
(dLook (nat_lit 3) [] [] (lkMove g12) p128 
(dLook (nat_lit 4) [] [] (lkBin .sub g128 q30) p129 
(dLook (nat_lit 5) [] [] (lkMove g0) p130 
(dLook (nat_lit 6) [] [] (lkMove g12) p131 
(dLook (nat_lit 7) [] [] (lkBin .sub g131 q30) p132 
(dLook (nat_lit 8) [] [] (lkIxSl (nat_lit 2) g130 g132) p133 
(dLook (nat_lit 9) [] [] (lkLoadN (nat_lit 2) g133) p134 
(dLook (nat_lit 10) [] [] (lkMove g0) p135 
(dLook (nat_lit 11) [] [] (lkMove g12) p136 
(dLook (nat_lit 12) [] [] (lkIxSl (nat_lit 2) g135 g136) p137 
(dLook (nat_lit 13) [] [] (lkLoadN (nat_lit 2) g137) p138 
(dLook (nat_lit 14) [] [] (lkIxSl (nat_lit 2) g125 g126) p139 
(dTurn (nat_lit 15) [] [] true (xTurn (tnStore (nat_lit 2) g139 g134)) noDst 
(dLook (nat_lit 16) [] [(nat_lit 15)] (lkIxSl (nat_lit 2) g127 g129) p140 
(dTurn (nat_lit 17) [] [(nat_lit 15)] true (xTurn (tnStore (nat_lit 2) g140 g138)) noDst (dEnd [(nat_lit 125), (nat_lit 126), (nat_lit 127), (nat_lit 128), (nat_lit 129), (nat_lit 130), (nat_lit 131), (nat_lit 132), (nat_lit 133), (nat_lit 134), (nat_lit 135), (nat_lit 136), (nat_lit 137), (nat_lit 138), (nat_lit 139), (nat_lit 140)])))))))))))))))))))))) (oSet (xMove g12) p110 
(oSet (xLook (lkBin .add g110 q30)) p111 
(oSet (xMove g111) p12 
oEnd)))))))) kSkip)))))))) (oSet (xMove g10) p17 
(oSet (xLook (lkBin .add g17 q30)) p18 
(oSet (xMove g18) p10 
oEnd)))))))) (kSeq (oSet (xMove q0) p8 
oEnd) kRet))))⟩
noncomputable def k55d0 : KD := 
(dLook (nat_lit 16) [] [(nat_lit 13)] (lkPick g34 g46 q0) p47 (dEnd [(nat_lit 31), (nat_lit 32), (nat_lit 33), (nat_lit 34), (nat_lit 35), (nat_lit 36), (nat_lit 37), (nat_lit 38), (nat_lit 39), (nat_lit 40), (nat_lit 41), (nat_lit 42), (nat_lit 43), (nat_lit 44), (nat_lit 45), (nat_lit 46), (nat_lit 47)]))
noncomputable def k55d1 : KD := 
(dIf [(nat_lit 13)] (wantT g34) p46 (dLook (nat_lit 15) [] [(nat_lit 13)] (lkUn .not g45) p46 k55d0) k55d0)
noncomputable def k55d2 : KD := 
(dIf [(nat_lit 13)] (wantT g34) p45 (dLook (nat_lit 14) [] [(nat_lit 13)] (lkBin .lss g44 q29) p45 k55d1) k55d1)
noncomputable def k55d3 : KD := 
(dIf [] (wantT g34) p44 (dTurn (nat_lit 13) [] [] true (xCall g35 [g39, g43]) p44 k55d2) k55d2)
noncomputable def k55d4 : KD := 
(dIf [] (wantT g34) p43 (dLook (nat_lit 12) [] [] (lkLoadN (nat_lit 2) g42) p43 k55d3) k55d3)
noncomputable def k55d5 : KD := 
(dIf [] (wantT g34) p42 (dLook (nat_lit 11) [] [] (lkIxSl (nat_lit 2) g40 g41) p42 k55d4) k55d4)
noncomputable def k55d6 : KD := 
(dIf [] (wantT g34) p41 (dLook (nat_lit 10) [] [] (lkMove g11) p41 k55d5) k55d5)
noncomputable def k55d7 : KD := 
(dIf [] (wantT g34) p40 (dLook (nat_lit 9) [] [] (lkMove g0) p40 k55d6) k55d6)
noncomputable def k55d8 : KD := 
(dIf [] (wantT g34) p39 (dLook (nat_lit 8) [] [] (lkLoadN (nat_lit 2) g38) p39 k55d7) k55d7)
noncomputable def k55d9 : KD := 
(dIf [] (wantT g34) p38 (dLook (nat_lit 7) [] [] (lkIxSl (nat_lit 2) g36 g37) p38 k55d8) k55d8)
noncomputable def k55d10 : KD := 
(dIf [] (wantT g34) p37 (dLook (nat_lit 6) [] [] (lkMove g1) p37 k55d9) k55d9)
noncomputable def k55d11 : KD := 
(dIf [] (wantT g34) p36 (dLook (nat_lit 5) [] [] (lkMove g0) p36 k55d10) k55d10)
noncomputable def k55d12 : KD := 
(dLook (nat_lit 15) [] [(nat_lit 13)] (lkPick g53 g64 q0) p65 (dEnd [(nat_lit 50), (nat_lit 51), (nat_lit 52), (nat_lit 53), (nat_lit 54), (nat_lit 55), (nat_lit 56), (nat_lit 57), (nat_lit 58), (nat_lit 59), (nat_lit 60), (nat_lit 61), (nat_lit 62), (nat_lit 63), (nat_lit 64), (nat_lit 65)]))
noncomputable def k55d13 : KD := 
(dIf [(nat_lit 13)] (wantT g53) p64 (dLook (nat_lit 14) [] [(nat_lit 13)] (lkBin .lss g63 q29) p64 k55d12) k55d12)
noncomputable def k55d14 : KD := 
(dIf [] (wantT g53) p63 (dTurn (nat_lit 13) [] [] true (xCall g54 [g58, g62]) p63 k55d13) k55d13)
noncomputable def k55d15 : KD := 
(dIf [] (wantT g53) p62 (dLook (nat_lit 12) [] [] (lkLoadN (nat_lit 2) g61) p62 k55d14) k55d14)
noncomputable def k55d16 : KD := 
(dIf [] (wantT g53) p61 (dLook (nat_lit 11) [] [] (lkIxSl (nat_lit 2) g59 g60) p61 k55d15) k55d15)
noncomputable def k55d17 : KD := 
(dIf [] (wantT g53) p60 (dLook (nat_lit 10) [] [] (lkMove g12) p60 k55d16) k55d16)
noncomputable def k55d18 : KD := 
(dIf [] (wantT g53) p59 (dLook (nat_lit 9) [] [] (lkMove g0) p59 k55d17) k55d17)
noncomputable def k55d19 : KD := 
(dIf [] (wantT g53) p58 (dLook (nat_lit 8) [] [] (lkLoadN (nat_lit 2) g57) p58 k55d18) k55d18)
noncomputable def k55d20 : KD := 
(dIf [] (wantT g53) p57 (dLook (nat_lit 7) [] [] (lkIxSl (nat_lit 2) g55 g56) p57 k55d19) k55d19)
noncomputable def k55d21 : KD := 
(dIf [] (wantT g53) p56 (dLook (nat_lit 6) [] [] (lkMove g1) p56 k55d20) k55d20)
noncomputable def k55d22 : KD := 
(dIf [] (wantT g53) p55 (dLook (nat_lit 5) [] [] (lkMove g0) p55 k55d21) k55d21)
noncomputable def k55 : KFun := ⟨[rTmp (nat_lit 10) g10], (kSeq (oSet (xMove q29) p10 
oEnd) (kSeq (kDraw 
(dLook (nat_lit 0) [] [] (lkMove g0) p13 
(dLook (nat_lit 1) [] [] (lkMove g1) p14 
(dLook (nat_lit 2) [] [] (lkMove g0) p15 
(dLook (nat_lit 3) [] [] (lkMove g3) p16 
(dLook (nat_lit 4) [] [] (lkMove g0) p17 
(dLook (nat_lit 5) [] [] (lkMove g3) p18 
(dLook (nat_lit 6) [] [] (lkIxSl (nat_lit 2) g17 g18) p19 
(dLook (nat_lit 7) [] [] (lkLoadN (nat_lit 2) g19) p20 
(dLook (nat_lit 8) [] [] (lkMove g0) p21 
(dLook (nat_lit 9) [] [] (lkMove g1) p22 
(dLook (nat_lit 10) [] [] (lkIxSl (nat_lit 2) g21 g22) p23 
(dLook (nat_lit 11) [] [] (lkLoadN (nat_lit 2) g23) p24 
(dLook (nat_lit 12) [] [] (lkIxSl (nat_lit 2) g13 g14) p25 
(dTurn (nat_lit 13) [] [] true (xTurn (tnStore (nat_lit 2) g25 g20)) noDst 
(dLook (nat_lit 14) [] [(nat_lit 13)] (lkIxSl (nat_lit 2) g15 g16) p26 
(dTurn (nat_lit 15) [] [(nat_lit 13)] true (xTurn (tnStore (nat_lit 2) g26 g24)) noDst (dEnd [(nat_lit 13), (nat_lit 14), (nat_lit 15), (nat_lit 16), (nat_lit 17), (nat_lit 18), (nat_lit 19), (nat_lit 20), (nat_lit 21), (nat_lit 22), (nat_lit 23), (nat_lit 24), (nat_lit 25), (nat_lit 26)])))))))))))))))))) (kSeq (oSet (xMove g1) p27 
(oSet (xLook (lkBin .add g27 q30)) p28 
(oSet (xMove g2) p29 
(oSet (xLook (lkBin .sub g29 q30)) p30 
(oSet (xMove g28) p11 
(oSet (xMove g30) p12 
oEnd)))))) (kSeq (kBlock (nat_lit 0) (kLoop (kBlock (nat_lit 1) (kSeq (kBlock (nat_lit 2) (kLoop (kSeq (kSeq (kDraw 
(dLook (nat_lit 0) [] [] (lkMove g11) p31 
(dLook (nat_lit 1) [] [] (lkMove g12) p32 
(dLook (nat_lit 2) [] [] (lkBin .leq g31 g32) p33 
(dLook (nat_lit 3) [] [] (lkMove g33) p34 
(dIf [] (wantT g34) p35 (dLook (nat_lit 4) [] [] (lkMove g4) p35 k55d11) k55d11)))))) (kCond g47 kSkip (kExit (nat_lit 2)))) (kBlock (nat_lit 3) (oSet (xMove g11) p48 
(oSet (xLook (lkBin .add g48 q30)) p49 
(oSet (xMove g49) p11 
oEnd))))))) (kSeq (kBlock (nat_lit 4) (kLoop (kSeq (kSeq (kDraw 
(dLook (nat_lit 0) [] [] (lkMove g11) p50 
(dLook (nat_lit 1) [] [] (lkMove g12) p51 
(dLook (nat_lit 2) [] [] (lkBin .leq g50 g51) p52 
(dLook (nat_lit 3) [] [] (lkMove g52) p53 
(dIf [] (wantT g53) p54 (dLook (nat_lit 4) [] [] (lkMove g4) p54 k55d22) k55d22)))))) (kCond g65 kSkip (kExit (nat_lit 4)))) (kBlock (nat_lit 5) (oSet (xMove g12) p66 
(oSet (xLook (lkBin .sub g66 q30)) p67 
(oSet (xMove g67) p12 
oEnd))))))) (kSeq (kSeq (oSet (xMove g11) p68 
(oSet (xMove g12) p69 
(oSet (xLook (lkBin .gtr g68 g69)) p70 
oEnd))) (kCond g70 (kExit (nat_lit 0)) kSkip)) (kSeq (kDraw 
(dLook (nat_lit 0) [] [] (lkMove g0) p71 
(dLook (nat_lit 1) [] [] (lkMove g11) p72 
(dLook (nat_lit 2) [] [] (lkMove g0) p73 
(dLook (nat_lit 3) [] [] (lkMove g12) p74 
(dLook (nat_lit 4) [] [] (lkMove g0) p75 
(dLook (nat_lit 5) [] [] (lkMove g12) p76 
(dLook (nat_lit 6) [] [] (lkIxSl (nat_lit 2) g75 g76) p77 
(dLook (nat_lit 7) [] [] (lkLoadN (nat_lit 2) g77) p78 
(dLook (nat_lit 8) [] [] (lkMove g0) p79 
(dLook (nat_lit 9) [] [] (lkMove g11) p80 
(dLook (nat_lit 10) [] [] (lkIxSl (nat_lit 2) g79 g80) p81 
(dLook (nat_lit 11) [] [] (lkLoadN (nat_lit 2) g81) p82 
(dLook (nat_lit 12) [] [] (lkIxSl (nat_lit 2) g71 g72) p83 
(dTurn (nat_lit 13) [] [] true (xTurn (tnStore (nat_lit 2) g83 g78)) noDst 
(dLook (nat_lit 14) [] [(nat_lit 13)] (lkIxSl (nat_lit 2) g73 g74) p84 
(dTurn (nat_lit 15) [] [(nat_lit 13)] true (xTurn (tnStore (nat_lit 2) g84 g82)) noDst (dEnd [(nat_lit 71), (nat_lit 72), (nat_lit 73), (nat_lit 74), (nat_lit 75), (nat_lit 76), (nat_lit 77), (nat_lit 78), (nat_lit 79), (nat_lit 80), (nat_lit 81), (nat_lit 82), (nat_lit 83), (nat_lit 84)])))))))))))))))))) (kSeq (oSet (xMove g11) p85 
(oSet (xLook (lkBin .add g85 q30)) p86 
(oSet (xMove g86) p11 
oEnd))) (oSet (xMove g12) p87 
(oSet (xLook (lkBin .sub g87 q30)) p88 
(oSet (xMove g88) p12 
oEnd))))))))))) (kSeq (oSet (xMove g11) p89 
(oSet (xMove g89) p10 
oEnd)) kRet)))))⟩
noncomputable def k56d0 : KD := 
(dLook (nat_lit 15) [] [(nat_lit 13)] (lkPick g35 g46 q0) p47 (dEnd [(nat_lit 32), (nat_lit 33), (nat_lit 34), (nat_lit 35), (nat_lit 36), (nat_lit 37), (nat_lit 38), (nat_lit 39), (nat_lit 40), (nat_lit 41), (nat_lit 42), (nat_lit 43), (nat_lit 44), (nat_lit 45), (nat_lit 46), (nat_lit 47)]))
noncomputable def k56d1 : KD := 
(dIf [(nat_lit 13)] (wantT g35) p46 (dLook (nat_lit 14) [] [(nat_lit 13)] (lkBin .lss g45 q29) p46 k56d0) k56d0)
noncomputable def k56d2 : KD := 
(dIf [] (wantT g35) p45 (dTurn (nat_lit 13) [] [] true (xCall g36 [g40, g44]) p45 k56d1) k56d1)
noncomputable def k56d3 : KD := 
(dIf [] (wantT g35) p44 (dLook (nat_lit 12) [] [] (lkLoadN (nat_lit 2) g43) p44 k56d2) k56d2)
noncomputable def k56d4 : KD := 
(dIf [] (wantT g35) p43 (dLook (nat_lit 11) [] [] (lkIxSl (nat_lit 2) g41 g42) p43 k56d3) k56d3)
noncomputable def k56d5 : KD := 
(dIf [] (wantT g35) p42 (dLook (nat_lit 10) [] [] (lkMove g1) p42 k56d4) k56d4)
noncomputable def k56d6 : KD := 
(dIf [] (wantT g35) p41 (dLook (nat_lit 9) [] [] (lkMove g0) p41 k56d5) k56d5)
noncomputable def k56d7 : KD := 
(dIf [] (wantT g35) p40 (dLook (nat_lit 8) [] [] (lkLoadN (nat_lit 2) g39) p40 k56d6) k56d6)
noncomputable def k56d8 : KD := 
(dIf [] (wantT g35) p39 (dLook (nat_lit 7) [] [] (lkIxSl (nat_lit 2) g37 g38) p39 k56d7) k56d7)
noncomputable def k56d9 : KD := 
(dIf [] (wantT g35) p38 (dLook (nat_lit 6) [] [] (lkMove g12) p38 k56d8) k56d8)
noncomputable def k56d10 : KD := 
(dIf [] (wantT g35) p37 (dLook (nat_lit 5) [] [] (lkMove g0) p37 k56d9) k56d9)
noncomputable def k56d11 : KD := 
(dLook (nat_lit 16) [] [(nat_lit 13)] (lkPick g53 g65 q0) p66 (dEnd [(nat_lit 50), (nat_lit 51), (nat_lit 52), (nat_lit 53), (nat_lit 54), (nat_lit 55), (nat_lit 56), (nat_lit 57), (nat_lit 58), (nat_lit 59), (nat_lit 60), (nat_lit 61), (nat_lit 62), (nat_lit 63), (nat_lit 64), (nat_lit 65), (nat_lit 66)]))
noncomputable def k56d12 : KD := 
(dIf [(nat_lit 13)] (wantT g53) p65 (dLook (nat_lit 15) [] [(nat_lit 13)] (lkUn .not g64) p65 k56d11) k56d11)
noncomputable def k56d13 : KD := 
(dIf [(nat_lit 13)] (wantT g53) p64 (dLook (nat_lit 14) [] [(nat_lit 13)] (lkBin .lss g63 q29) p64 k56d12) k56d12)
noncomputable def k56d14 : KD := 
(dIf [] (wantT g53) p63 (dTurn (nat_lit 13) [] [] true (xCall g54 [g58, g62]) p63 k56d13) k56d13)
noncomputable def k56d15 : KD := 
(dIf [] (wantT g53) p62 (dLook (nat_lit 12) [] [] (lkLoadN (nat_lit 2) g61) p62 k56d14) k56d14)
noncomputable def k56d16 : KD := 
(dIf [] (wantT g53) p61 (dLook (nat_lit 11) [] [] (lkIxSl (nat_lit 2) g59 g60) p61 k56d15) k56d15)
noncomputable def k56d17 : KD := 
(dIf [] (wantT g53) p60 (dLook (nat_lit 10) [] [] (lkMove g1) p60 k56d16) k56d16)
noncomputable def k56d18 : KD := 
(dIf [] (wantT g53) p59 (dLook (nat_lit 9) [] [] (lkMove g0) p59 k56d17) k56d17)
noncomputable def k56d19 : KD := 
(dIf [] (wantT g53) p58 (dLook (nat_lit 8) [] [] (lkLoadN (nat_lit 2) g57) p58 k56d18) k56d18)
noncomputable def k56d20 : KD := 
(dIf [] (wantT g53) p57 (dLook (nat_lit 7) [] [] (lkIxSl (nat_lit 2) g55 g56) p57 k56d19) k56d19)
noncomputable def k56d21 : KD := 
(dIf [] (wantT g53) p56 (dLook (nat_lit 6) [] [] (lkMove g13) p56 k56d20) k56d20)
noncomputable def k56d22 : KD := 
(dIf [] (wantT g53) p55 (dLook (nat_lit 5) [] [] (lkMove g0) p55 k56d21) k56d21)
noncomputable def k56d23 : KD := 
(dLook (nat_lit 15) [] [(nat_lit 13)] (lkPick g108 g119 q0) p120 (dEnd [(nat_lit 105), (nat_lit 106), (nat_lit 107), (nat_lit 108), (nat_lit 109), (nat_lit 110), (nat_lit 111), (nat_lit 112), (nat_lit 113), (nat_lit 114), (nat_lit 115), (nat_lit 116), (nat_lit 117), (nat_lit 118), (nat_lit 119), (nat_lit 120)]))
noncomputable def k56d24 : KD := 
(dIf [(nat_lit 13)] (wantT g108) p119 (dLook (nat_lit 14) [] [(nat_lit 13)] (lkBin .lss g118 q29) p119 k56d23) k56d23)
noncomputable def k56d25 : KD := 
(dIf [] (wantT g108) p118 (dTurn (nat_lit 13) [] [] true (xCall g109 [g113, g117]) p118 k56d24) k56d24)
noncomputable def k56d26 : KD := 
(dIf [] (wantT g108) p117 (dLook (nat_lit 12) [] [] (lkLoadN (nat_lit 2) g116) p117 k56d25) k56d25)
noncomputable def k56d27 : KD := 
(dIf [] (wantT g108) p116 (dLook (nat_lit 11) [] [] (lkIxSl (nat_lit 2) g114 g115) p116 k56d26) k56d26)
noncomputable def k56d28 : KD := 
(dIf [] (wantT g108) p115 (dLook (nat_lit 10) [] [] (lkMove g1) p115 k56d27) k56d27)
noncomputable def k56d29 : KD := 
(dIf [] (wantT g108) p114 (dLook (nat_lit 9) [] [] (lkMove g0) p114 k56d28) k56d28)
noncomputable def k56d30 : KD := 
(dIf [] (wantT g108) p113 (dLook (nat_lit 8) [] [] (lkLoadN (nat_lit 2) g112) p113 k56d29) k56d29)
noncomputable def k56d31 : KD := 
(dIf [] (wantT g108) p112 (dLook (nat_lit 7) [] [] (lkIxSl (nat_lit 2) g110 g111) p112 k56d30) k56d30)
noncomputable def k56d32 : KD := 
(dIf [] (wantT g108) p111 (dLook (nat_lit 6) [] [] (lkMove g12) p111 k56d31) k56d31)
noncomputable def k56d33 : KD := 
(dIf [] (wantT g108) p110 (dLook (nat_lit 5) [] [] (lkMove g0) p110 k56d32) k56d32)
noncomputable def k56d34 : KD := 
(dLook (nat_lit 16) [] [(nat_lit 13)] (lkPick g126 g138 q0) p139 (dEnd [(nat_lit 123), (nat_lit 124), (nat_lit 125), (nat_lit 126), (nat_lit 127), (nat_lit 128), (nat_lit 129), (nat_lit 130), (nat_lit 131), (nat_lit 132), (nat_lit 133), (nat_lit 134), (nat_lit 135), (nat_lit 136), (nat_lit 137), (nat_lit 138), (nat_lit 139)]))
noncomputable def k56d35 : KD := 
(dIf [(nat_lit 13)] (wantT g126) p138 (dLook (nat_lit 15) [] [(nat_lit 13)] (lkUn .not g137) p138 k56d34) k56d34)
noncomputable def k56d36 : KD := 
(dIf [(nat_lit 13)] (wantT g126) p137 (dLook (nat_lit 14) [] [(nat_lit 13)] (lkBin .lss g136 q29) p137 k56d35) k56d35)
noncomputable def k56d37 : KD := 
(dIf [] (wantT g126) p136 (dTurn (nat_lit 13) [] [] true (xCall g127 [g131, g135]) p136 k56d36) k56d36)
noncomputable def k56d38 : KD := 
(dIf [] (wantT g126) p135 (dLook (nat_lit 12) [] [] (lkLoadN (nat_lit 2) g134) p135 k56d37) k56d37)
noncomputable def k56d39 : KD := 
(dIf [] (wantT g126) p134 (dLook (nat_lit 11) [] [] (lkIxSl (nat_lit 2) g132 g133) p134 k56d38) k56d38)
noncomputable def k56d40 : KD := 
(dIf [] (wantT g126) p133 (dLook (nat_lit 10) [] [] (lkMove g1) p133 k56d39) k56d39)
noncomputable def k56d41 : KD := 
(dIf [] (wantT g126) p132 (dLook (nat_lit 9) [] [] (lkMove g0) p132 k56d40) k56d40)
noncomputable def k56d42 : KD := 
(dIf [] (wantT g126) p131 (dLook (nat_lit 8) [] [] (lkLoadN (nat_lit 2) g130) p131 k56d41) k56d41)
noncomputable def k56d43 : KD := 
(dIf [] (wantT g126) p130 (dLook (nat_lit 7) [] [] (lkIxSl (nat_lit 2) g128 g129) p130 k56d42) k56d42)
noncomputable def k56d44 : KD := 
(dIf [] (wantT g126) p129 (dLook (nat_lit 6) [] [] (lkMove g13) p129 k56d43) k56d43)
noncomputable def k56d45 : KD := 
(dIf [] (wantT g126) p128 (dLook (nat_lit 5) [] [] (lkMove g0) p128 k56d44) k56d44)
noncomputable def k56 : KFun := ⟨[rTmp (nat_lit 10) g10, rTmp (nat_lit 11) g11], (kSeq (oSet (xMove q29) p10 
(oSet (xMove q0) p11 
oEnd)) (kSeq (kDraw 
(dLook (nat_lit 0) [] [] (lkMove g0) p14 
(dLook (nat_lit 1) [] [] (lkMove g1) p15 
(dLook (nat_lit 2) [] [] (lkMove g0) p16 
(dLook (nat_lit 3) [] [] (lkMove g3) p17 
(dLook (nat_lit 4) [] [] (lkMove g0) p18 
(dLook (nat_lit 5) [] [] (lkMove g3) p19 
(dLook (nat_lit 6) [] [] (lkIxSl (nat_lit 2) g18 g19) p20 
(dLook (nat_lit 7) [] [] (lkLoadN (nat_lit 2) g20) p21 
(dLook (nat_lit 8) [] [] (lkMove g0) p22 
(dLook (nat_lit 9) [] [] (lkMove g1) p23 
(dLook (nat_lit 10) [] [] (lkIxSl (nat_lit 2) g22 g23) p24 
(dLook (nat_lit 11) [] [] (lkLoadN (nat_lit 2) g24) p25 
(dLook (nat_lit 12) [] [] (lkIxSl (nat_lit 2) g14 g15) p26 
(dTurn (nat_lit 13) [] [] true (xTurn (tnStore (nat_lit 2) g26 g21)) noDst 
(dLook (nat_lit 14) [] [(nat_lit 13)] (lkIxSl (nat_lit 2) g16 g17) p27 
(dTurn (nat_lit 15) [] [(nat_lit 13)] true (xTurn (tnStore (nat_lit 2) g27 g25)) noDst (dEnd [(nat_lit 14), (nat_lit 15), (nat_lit 16), (nat_lit 17), (nat_lit 18), (nat_lit 19), (nat_lit 20), (nat_lit 21), (nat_lit 22), (nat_lit 23), (nat_lit 24), (nat_lit 25), (nat_lit 26), (nat_lit 27)])))))))))))))))))) (kSeq (oSet (xMove g1) p28 
(oSet (xLook (lkBin .add g28 q30)) p29 
(oSet (xMove g2) p30 
(oSet (xLook (lkBin .sub g30 q30)) p31 
(oSet (xMove g29) p12 
(oSet (xMove g31) p13 
oEnd)))))) (kSeq (kBlock (nat_lit 0) (kLoop (kSeq (kSeq (kDraw 
(dLook (nat_lit 0) [] [] (lkMove g12) p32 
(dLook (nat_lit 1) [] [] (lkMove g13) p33 
(dLook (nat_lit 2) [] [] (lkBin .leq g32 g33) p34 
(dLook (nat_lit 3) [] [] (lkMove g34) p35 
(dIf [] (wantT g35) p36 (dLook (nat_lit 4) [] [] (lkMove g4) p36 k56d10) k56d10)))))) (kCond g47 kSkip (kExit (nat_lit 0)))) (kBlock (nat_lit 1) (oSet (xMove g12) p48 
(oSet (xLook (lkBin .add g48 q30)) p49 
(oSet (xMove g49) p12 
oEnd))))))) (kSeq (kBlock (nat_lit 2) (kLoop (kSeq (kSeq (kDraw 
(dLook (nat_lit 0) [] [] (lkMove g12) p50 
(dLook (nat_lit 1) [] [] (lkMove g13) p51 
(dLook (nat_lit 2) [] [] (lkBin .leq g50 g51) p52 
(dLook (nat_lit 3) [] [] (lkMove g52) p53 
(dIf [] (wantT g53) p54 (dLook (nat_lit 4) [] [] (lkMove g4) p54 k56d22) k56d22)))))) (kCond g66 kSkip (kExit (nat_lit 2)))) (kBlock (nat_lit 3) (oSet (xMove g13) p67 
(oSet (xLook (lkBin .sub g67 q30)) p68 
(oSet (xMove g68) p13 
oEnd))))))) (kSeq (kSeq (oSet (xMove g12) p69 
(oSet (xMove g13) p70 
(oSet (xLook (lkBin .gtr g69 g70)) p71 
oEnd))) (kCond g71 (kSeq (kDraw 
(dLook (nat_lit 0) [] [] (lkMove g0) p72 
(dLook (nat_lit 1) [] [] (lkMove g13) p73 
(dLook (nat_lit 2) [] [] (lkMove g0) p74 
(dLook (nat_lit 3) [] [] (lkMove g1) p75 
(dLook (nat_lit 4) [] [] (lkMove g0) p76 
(dLook (nat_lit 5) [] [] (lkMove g1) p77 
(dLook (nat_lit 6) [] [] (lkIxSl (nat_lit 2) g76 g77) p78 
(dLook (nat_lit 7) [] [] (lkLoadN (nat_lit 2) g78) p79 
(dLook (nat_lit 8) [] [] (lkMove g0) p80 
(dLook (nat_lit 9) [] [] (lkMove g13) p81 
(dLook (nat_lit 10) [] [] (lkIxSl (nat_lit 2) g80 g81) p82 
(dLook (nat_lit 11) [] [] (lkLoadN (nat_lit 2) g82) p83 
(dLook (nat_lit 12) [] [] (lkIxSl (nat_lit 2) g72 g73) p84 
(dTurn (nat_lit 13) [] [] true (xTurn (tnStore (nat_lit 2) g84 g79)) noDst 
(dLook (nat_lit 14) [] [(nat_lit 13)] (lkIxSl (nat_lit 2) g74 g75) p85 
(dTurn (nat_lit 15) [] [(nat_lit 13)] true (xTurn (tnStore (nat_lit 2) g85 g83)) noDst (dEnd [(nat_lit 72), (nat_lit 73), (nat_lit 74), (nat_lit 75), (nat_lit 76), (nat_lit 77), (nat_lit 78), (nat_lit 79), (nat_lit 80), (nat_lit 81), (nat_lit 82), (nat_lit 83), (nat_lit 84), (nat_lit 85)])))))))))))))))))) (kSeq (oSet (xMove g13) p86 
(oSet (xMove g86) p10 
(oSet (xMove q31) p11 
oEnd))) kRet)) kSkip)) (kSeq (kDraw 
(dLook (nat_lit 0) [] [] (lkMove g0) p87 
(dLook (nat_lit 1) [] [] (lkMove g12) p88 
(dLook (nat_lit 2) [] [] (lkMove g0) p89 
(dLook (nat_lit 3) [] [] (lkMove g13) p90 
(dLook (nat_lit 4) [] [] (lkMove g0) p91 
(dLook (nat_lit 5) [] [] (lkMove g13) p92 
(dLook (nat_lit 6) [] [] (lkIxSl (nat_lit 2) g91 g92) p93 
(dLook (nat_lit 7) [] [] (lkLoadN (nat_lit 2) g93) p94 
(dLook (nat_lit 8) [] [] (lkMove g0) p95 
(dLook (nat_lit 9) [] [] (lkMove g12) p96 
(dLook (nat_lit 10) [] [] (lkIxSl (nat_lit 2) g95 g96) p97 
(dLook (nat_lit 11) [] [] (lkLoadN (nat_lit 2) g97) p98 
(dLook (nat_lit 12) [] [] (lkIxSl (nat_lit 2) g87 g88) p99 
(dTurn (nat_lit 13) [] [] true (xTurn (tnStore (nat_lit 2) g99 g94)) noDst 
(dLook (nat_lit 14) [] [(nat_lit 13)] (lkIxSl (nat_lit 2) g89 g90) p100 
(dTurn (nat_lit 15) [] [(nat_lit 13)] true (xTurn (tnStore (nat_lit 2) g100 g98)) noDst (dEnd [(nat_lit 87), (nat_lit 88), (nat_lit 89), (nat_lit 90), (nat_lit 91), (nat_lit 92), (nat_lit 93), (nat_lit 94), (nat_lit 95), (nat_lit 96), (nat_lit 97), (nat_lit 98), (nat_lit 99), (nat_lit 100)])))))))))))))))))) (kSeq (oSet (xMove g12) p101 
(oSet (xLook (lkBin .add g101 q30)) p102 
(oSet (xMove g102) p12 
oEnd))) (kSeq (oSet (xMove g13) p103 
(oSet (xLook (lkBin .sub g103 q30)) p104 
(oSet (xMove g104) p13 
oEnd))) (kSeq (kBlock (nat_lit 4) (kLoop (kBlock (nat_lit 5) (kSeq (kBlock (nat_lit 6) (kLoop (kSeq (kSeq (kDraw 
(dLook (nat_lit 0) [] [] (lkMove g12) p105 
(dLook (nat_lit 1) [] [] (lkMove g13) p106 
(dLook (nat_lit 2) [] [] (lkBin .leq g105 g106) p107 
(dLook (nat_lit 3) [] [] (lkMove g107) p108 
(dIf [] (wantT g108) p109 (dLook (nat_lit 4) [] [] (lkMove g4) p109 k56d33) k56d33)))))) (kCond g120 kSkip (kExit (nat_lit 6)))) (kBlock (nat_lit 7) (oSet (xMove g12) p121 
(oSet (xLook (lkBin .add g121 q30)) p122 
(oSet (xMove g122) p12 
oEnd))))))) (kSeq (kBlock (nat_lit 8) (kLoop (kSeq (kSeq (kDraw 
(dLook (nat_lit 0) [] [] (lkMove g12) p123 
(dLook (nat_lit 1) [] [] (lkMove g13) p124 
(dLook (nat_lit 2) [] [] (lkBin .leq g123 g124) p125 
(dLook (nat_lit 3) [] [] (lkMove g125) p126 
(dIf [] (wantT g126) p127 (dLook (nat_lit 4) [] [] (lkMove g4) p127 k56d45) k56d45)))))) (kCond g139 kSkip (kExit (nat_lit 8)))) (kBlock (nat_lit 9) (oSet (xMove g13) p140 
(oSet (xLook (lkBin .sub g140 q30)) p141 
(oSet (xMove g141) p13 
oEnd))))))) (kSeq (kSeq (oSet (xMove g12) p142 
(oSet (xMove g13) p143 
(oSet (xLook (lkBin .gtr g142 g143)) p144 
oEnd))) (kCond g144 (kExit (nat_lit 4)) kSkip)) (kSeq (kDraw 
(dLook (nat_lit 0) [] [] (lkMove g0) p145 
(dLook (nat_lit 1) [] [] (lkMove g12) p146 
(dLook (nat_lit 2) [] [] (lkMove g0) p147 
(dLook (nat_lit 3) [] [] (lkMove g13) p148 
(dLook (nat_lit 4) [] [] (lkMove g0) p149 
(dLook (nat_lit 5) [] [] (lkMove g13) p150 
(dLook (nat_lit 6) [] [] (lkIxSl (nat_lit 2) g149 g150) p151 
(dLook (nat_lit 7) [] [] (lkLoadN (nat_lit 2) g151) p152 
(dLook (nat_lit 8) [] [] (lkMove g0) p153 
(dLook (nat_lit 9) [] [] (lkMove g12) p154 
(dLook (nat_lit 10) [] [] (lkIxSl (nat_lit 2) g153 g154) p155 
(dLook (nat_lit 11) [] [] (lkLoadN (nat_lit 2) g155) p156 
(dLook (nat_lit 12) [] [] (lkIxSl (nat_lit 2) g145 g146) p157 
(dTurn (nat_lit 13) [] [] true (xTurn (tnStore (nat_lit 2) g157 g152)) noDst 
(dLook (nat_lit 14) [] [(nat_lit 13)] (lkIxSl (nat_lit 2) g147 g148) p158 
(dTurn (nat_lit 15) [] [(nat_lit 13)] true (xTurn (tnStore (nat_lit 2) g158 g156)) noDst (dEnd [(nat_lit 145), (nat_lit 146), (nat_lit 147), (nat_lit 148), (nat_lit 149), (nat_lit 150), (nat_lit 151), (nat_lit 152), (nat_lit 153), (nat_lit 154), (nat_lit 155), (nat_lit 156), (nat_lit 157), (nat_lit 158)])))))))))))))))))) (kSeq (oSet (xMove g12) p159 
(oSet (xLook (lkBin .add g159 q30)) p160 
(oSet (xMove g160) p12 
oEnd))) (oSet (xMove g13) p161 
(oSet (xLook (lkBin .sub g161 q30)) p162 
(oSet (xMove g162) p13 
oEnd))))))))))) (kSeq (kDraw 
(dLook (nat_lit 0) [] [] (lkMove g0) p163 
(dLook (nat_lit 1) [] [] (lkMove g13) p164 
(dLook (nat_lit 2) [] [] (lkMove g0) p165 
(dLook (nat_lit 3) [] [] (lkMove g1) p166 
(dLook (nat_lit 4) [] [] (lkMove g0) p167 
(dLook (nat_lit 5) [] [] (lkMove g1) p168 
(dLook (nat_lit 6) [] [] (lkIxSl (nat_lit 2) g167 g168) p169 
(dLook (nat_lit 7) [] [] (lkLoadN (nat_lit 2) g169) p170 
(dLook (nat_lit 8) [] [] (lkMove g0) p171 
(dLook (nat_lit 9) [] [] (lkMove g13) p172 
(dLook (nat_lit 10) [] [] (lkIxSl (nat_lit 2) g171 g172) p173 
(dLook (nat_lit 11) [] [] (lkLoadN (nat_lit 2) g173) p174 
(dLook (nat_lit 12) [] [] (lkIxSl (nat_lit 2) g163 g164) p175 
(dTurn (nat_lit 13) [] [] true (xTurn (tnStore (nat_lit 2) g175 g170)) noDst 
(dLook (nat_lit 14) [] [(nat_lit 13)] (lkIxSl (nat_lit 2) g165 g166) p176 
(dTurn (nat_lit 15) [] [(nat_lit 13)] true (xTurn (tnStore (nat_lit 2) g176 g174)) noDst (dEnd [(nat_lit 163), (nat_lit 164), (nat_lit 165), (nat_lit 166), (nat_lit 167), (nat_lit 168), (nat_lit 169), (nat_lit 170), (nat_lit 171), (nat_lit 172), (nat_lit 173), (nat_lit 174), (nat_lit 175), (nat_lit 176)])))))))))))))))))) (kSeq (oSet (xMove g13) p177 
(oSet (xMove g177) p10 
(oSet (xMove q0) p11 
oEnd))) kRet))))))))))))⟩
def q70 : OpdF := kC (.int .u32 (.ofNat (nat_lit 65536)))
def q71 : OpdF := kC (.int .u64 (.ofNat (nat_lit 16)))
def q72 : OpdF := kC (.int .i64 (.ofNat (nat_lit 16)))
def q73 : OpdF := kC (.int .u32 (.ofNat (nat_lit 256)))
def q74 : OpdF := kC (.int .u64 (.ofNat (nat_lit 8)))
def q75 : OpdF := kC (.string ⟨⟨[0, 1, 2, 2, 3, 3, 3, 3, 4, 4, 4, 4, 4, 4, 4, 4, 5, 5, 5, 5, 5, 5, 5, 5, 5, 5, 5, 5, 5, 5, 5, 5, 6, 6, 6, 6, 6, 6, 6, 6, 6, 6, 6, 6, 6, 6, 6, 6, 6, 6, 6, 6, 6, 6, 6, 6, 6, 6, 6, 6, 6, 6, 6, 6, 7, 7, 7, 7, 7, 7, 7, 7, 7, 7, 7, 7, 7, 7, 7, 7, 7, 7, 7, 7, 7, 7, 7, 7, 7, 7, 7, 7, 7, 7, 7, 7, 7, 7, 7, 7, 7, 7, 7, 7, 7, 7, 7, 7, 7, 7, 7, 7, 7, 7, 7, 7, 7, 7, 7, 7, 7, 7, 7, 7, 7, 7, 7, 7, 8, 8, 8, 8, 8, 8, 8, 8, 8, 8, 8, 8, 8, 8, 8, 8, 8, 8, 8, 8, 8, 8, 8, 8, 8, 8, 8, 8, 8, 8, 8, 8, 8, 8, 8, 8, 8, 8, 8, 8, 8, 8, 8, 8, 8, 8, 8, 8, 8, 8, 8, 8, 8, 8, 8, 8, 8, 8, 8, 8, 8, 8, 8, 8, 8, 8, 8, 8, 8, 8, 8, 8, 8, 8, 8, 8, 8, 8, 8, 8, 8, 8, 8, 8, 8, 8, 8, 8, 8, 8, 8, 8, 8, 8, 8, 8, 8, 8, 8, 8, 8, 8, 8, 8, 8, 8, 8, 8, 8, 8, 8, 8, 8, 8, 8, 8, 8, 8, 8, 8, 8, 8, 8, 8, 8, 8, 8, 8]⟩⟩)
noncomputable def k57 : KFun := ⟨[rTmp (nat_lit 2) g2], (kSeq (oSet (xMove q29) p2 
oEnd) (kSeq (kSeq (oSet (xMove g0) p3 
(oSet (xLook (lkBin .geq g3 q70)) p4 
oEnd)) (kCond g4 (kSeq (oSet (xMove g0) p5 
(oSet (xLook (lkBin .shr g5 q71)) p6 
(oSet (xMove g6) p0 
oEnd))) (oSet (xMove q72) p2 
oEnd)) kSkip)) (kSeq (kSeq (oSet (xMove g0) p7 
(oSet (xLook (lkBin .geq g7 q73)) p8 
oEnd)) (kCond g8 (kSeq (oSet (xMove g0) p9 
(oSet (xLook (lkBin .shr g9 q74)) p10 
(oSet (xMove g10) p0 
oEnd))) (oSet (xMove g2) p11 
(oSet (xLook (lkBin .add g11 q55)) p12 
(oSet (xMove g12) p2 
oEnd)))) kSkip)) (kSeq (oSet (xMove g2) p13 
(oSet (xMove g0) p14 
(oSet (xLook (lkIntTo .u8 g14)) p15 
(oSet (xLook (lkIxStr q75 g15)) p16 
(oSet (xLook (lkIntTo .i64 g16)) p17 
(oSet (xLook (lkBin .add g13 g17)) p18 
(oSet (xMove g18) p2 
oEnd))))))) kRet))))⟩
def q76 : OpdF := kC (.int .u64 (.ofNat (nat_lit 4294967296)))
def q77 : OpdF := kC (.int .u64 (.ofNat (nat_lit 32)))
def q78 : OpdF := kC (.int .i64 (.ofNat (nat_lit 32)))
def q79 : OpdF := kC (.int .u64 (.ofNat (nat_lit 65536)))
def q80 : OpdF := kC (.int .u64 (.ofNat (nat_lit 256)))
noncomputable def k58 : KFun := ⟨[rTmp (nat_lit 2) g2], (kSeq (oSet (xMove q29) p2 
oEnd) (kSeq (kSeq (oSet (xMove g0) p3 
(oSet (xLook (lkBin .geq g3 q76)) p4 
oEnd)) (kCond g4 (kSeq (oSet (xMove g0) p5 
(oSet (xLook (lkBin .shr g5 q77)) p6 
(oSet (xMove g6) p0 
oEnd))) (oSet (xMove q78) p2 
oEnd)) kSkip)) (kSeq (kSeq (oSet (xMove g0) p7 
(oSet (xLook (lkBin .geq g7 q79)) p8 
oEnd)) (kCond g8 (kSeq (oSet (xMove g0) p9 
(oSet (xLook (lkBin .shr g9 q71)) p10 
(oSet (xMove g10) p0 
oEnd))) (oSet (xMove g2) p11 
(oSet (xLook (lkBin .add g11 q72)) p12 
(oSet (xMove g12) p2 
oEnd)))) kSkip)) (kSeq (kSeq (oSet (xMove g0) p13 
(oSet (xLook (lkBin .geq g13 q80)) p14 
oEnd)) (kCond g14 (kSeq (oSet (xMove g0) p15 
(oSet (xLook (lkBin .shr g15 q74)) p16 
(oSet (xMove g16) p0 
oEnd))) (oSet (xMove g2) p17 
(oSet (xLook (lkBin .add g17 q55)) p18 
(oSet (xMove g18) p2 
oEnd)))) kSkip)) (kSeq (oSet (xMove g2) p19 
(oSet (xMove g0) p20 
(oSet (xLook (lkIntTo .u8 g20)) p21 
(oSet (xLook (lkIxStr q75 g21)) p22 
(oSet (xLook (lkIntTo .i64 g22)) p23 
(oSet (xLook (lkBin .add g19 g23)) p24 
(oSet (xMove g24) p2 
oEnd))))))) kRet)))))⟩
noncomputable def k59d0 : KD := 
(dLook (nat_lit 21) [] [(nat_lit 19)] (lkPick g23 g39 q0) p40 (dEnd [(nat_lit 19), (nat_lit 20), (nat_lit 21), (nat_lit 22), (nat_lit 23), (nat_lit 24), (nat_lit 25), (nat_lit 26), (nat_lit 27), (nat_lit 28), (nat_lit 29), (nat_lit 30), (nat_lit 31), (nat_lit 32), (nat_lit 33), (nat_lit 34), (nat_lit 35), (nat_lit 36), (nat_lit 37), (nat_lit 38), (nat_lit 39), (nat_lit 40)]))
noncomputable def k59d1 : KD := 
(dIf [(nat_lit 19)] (wantT g23) p39 (dLook (nat_lit 20) [] [(nat_lit 19)] (lkBin .lss g38 q29) p39 k59d0) k59d0)
noncomputable def k59d2 : KD := 
(dIf [] (wantT g23) p38 (dTurn (nat_lit 19) [] [] true (xCall g24 [g30, g37]) p38 k59d1) k59d1)
noncomputable def k59d3 : KD := 
(dIf [] (wantT g23) p37 (dLook (nat_lit 18) [] [] (lkLoadN (nat_lit 2) g36) p37 k59d2) k59d2)
noncomputable def k59d4 : KD := 
(dIf [] (wantT g23) p36 (dLook (nat_lit 17) [] [] (lkIxSl (nat_lit 2) g31 g35) p36 k59d3) k59d3)
noncomputable def k59d5 : KD := 
(dIf [] (wantT g23) p35 (dLook (nat_lit 16) [] [] (lkBin .add g34 q30) p35 k59d4) k59d4)
noncomputable def k59d6 : KD := 
(dIf [] (wantT g23) p34 (dLook (nat_lit 15) [] [] (lkBin .add g32 g33) p34 k59d5) k59d5)
noncomputable def k59d7 : KD := 
(dIf [] (wantT g23) p33 (dLook (nat_lit 14) [] [] (lkMove g11) p33 k59d6) k59d6)
noncomputable def k59d8 : KD := 
(dIf [] (wantT g23) p32 (dLook (nat_lit 13) [] [] (lkMove g3) p32 k59d7) k59d7)
noncomputable def k59d9 : KD := 
(dIf [] (wantT g23) p31 (dLook (nat_lit 12) [] [] (lkMove g0) p31 k59d8) k59d8)
noncomputable def k59d10 : KD := 
(dIf [] (wantT g23) p30 (dLook (nat_lit 11) [] [] (lkLoadN (nat_lit 2) g29) p30 k59d9) k59d9)
noncomputable def k59d11 : KD := 
(dIf [] (wantT g23) p29 (dLook (nat_lit 10) [] [] (lkIxSl (nat_lit 2) g25 g28) p29 k59d10) k59d10)
noncomputable def k59d12 : KD := 
(dIf [] (wantT g23) p28 (dLook (nat_lit 9) [] [] (lkBin .add g26 g27) p28 k59d11) k59d11)
noncomputable def k59d13 : KD := 
(dIf [] (wantT g23) p27 (dLook (nat_lit 8) [] [] (lkMove g11) p27 k59d12) k59d12)
noncomputable def k59d14 : KD := 
(dIf [] (wantT g23) p26 (dLook (nat_lit 7) [] [] (lkMove g3) p26 k59d13) k59d13)
noncomputable def k59d15 : KD := 
(dIf [] (wantT g23) p25 (dLook (nat_lit 6) [] [] (lkMove g0) p25 k59d14) k59d14)
noncomputable def k59 : KFun := ⟨[], (kSeq (oSet (xMove g1) p12 
(oSet (xMove g12) p10 
oEnd)) (kBlock (nat_lit 0) (kLoop (kBlock (nat_lit 1) (kSeq (oSet (xMove g10) p13 
(oSet (xLook (lkBin .mul q50 g13)) p14 
(oSet (xLook (lkBin .add g14 q30)) p15 
(oSet (xMove g15) p11 
oEnd)))) (kSeq (kSeq (oSet (xMove g11) p16 
(oSet (xMove g2) p17 
(oSet (xLook (lkBin .geq g16 g17)) p18 
oEnd))) (kCond g18 (kExit (nat_lit 0)) kSkip)) (kSeq (kSeq (kDraw 
(dLook (nat_lit 0) [] [] (lkMove g11) p19 
(dLook (nat_lit 1) [] [] (lkBin .add g19 q30) p20 
(dLook (nat_lit 2) [] [] (lkMove g2) p21 
(dLook (nat_lit 3) [] [] (lkBin .lss g20 g21) p22 
(dLook (nat_lit 4) [] [] (lkMove g22) p23 
(dIf [] (wantT g23) p24 (dLook (nat_lit 5) [] [] (lkMove g4) p24 k59d15) k59d15))))))) (kCond g40 (oSet (xMove g11) p41 
(oSet (xLook (lkBin .add g41 q30)) p42 
(oSet (xMove g42) p11 
oEnd))) kSkip)) (kSeq (kSeq (kDraw 
(dLook (nat_lit 0) [] [] (lkMove g4) p43 
(dLook (nat_lit 1) [] [] (lkMove g0) p44 
(dLook (nat_lit 2) [] [] (lkMove g3) p45 
(dLook (nat_lit 3) [] [] (lkMove g10) p46 
(dLook (nat_lit 4) [] [] (lkBin .add g45 g46) p47 
(dLook (nat_lit 5) [] [] (lkIxSl (nat_lit 2) g44 g47) p48 
(dLook (nat_lit 6) [] [] (lkLoadN (nat_lit 2) g48) p49 
(dLook (nat_lit 7) [] [] (lkMove g0) p50 
(dLook (nat_lit 8) [] [] (lkMove g3) p51 
(dLook (nat_lit 9) [] [] (lkMove g11) p52 
(dLook (nat_lit 10) [] [] (lkBin .add g51 g52) p53 
(dLook (nat_lit 11) [] [] (lkIxSl (nat_lit 2) g50 g53) p54 
(dLook (nat_lit 12) [] [] (lkLoadN (nat_lit 2) g54) p55 
(dTurn (nat_lit 13) [] [] true (xCall g43 [g49, g55]) p56 
(dLook (nat_lit 14) [] [(nat_lit 13)] (lkBin .lss g56 q29) p57 
(dLook (nat_lit 15) [] [(nat_lit 13)] (lkUn .not g57) p58 (dEnd [(nat_lit 43), (nat_lit 44), (nat_lit 45), (nat_lit 46), (nat_lit 47), (nat_lit 48), (nat_lit 49), (nat_lit 50), (nat_lit 51), (nat_lit 52), (nat_lit 53), (nat_lit 54), (nat_lit 55), (nat_lit 56), (nat_lit 57), (nat_lit 58)])))))))))))))))))) (kCond g58 kRet kSkip)) (kSeq (kDraw 
(dLook (nat_lit 0) [] [] (lkMove g0) p59 
(dLook (nat_lit 1) [] [] (lkMove g3) p60 
(dLook (nat_lit 2) [] [] (lkMove g10) p61 
(dLook (nat_lit 3) [] [] (lkBin .add g60 g61) p62 
(dLook (nat_lit 4) [] [] (lkMove g0) p63 
(dLook (nat_lit 5) [] [] (lkMove g3) p64 
(dLook (nat_lit 6) [] [] (lkMove g11) p65 
(dLook (nat_lit 7) [] [] (lkBin .add g64 g65) p66 
(dLook (nat_lit 8) [] [] (lkMove g0) p67 
(dLook (nat_lit 9) [] [] (lkMove g3) p68 
(dLook (nat_lit 10) [] [] (lkMove g11) p69 
(dLook (nat_lit 11) [] [] (lkBin .add g68 g69) p70 
(dLook (nat_lit 12) [] [] (lkIxSl (nat_lit 2) g67 g70) p71 
(dLook (nat_lit 13) [] [] (lkLoadN (nat_lit 2) g71) p72 
(dLook (nat_lit 14) [] [] (lkMove g0) p73 
(dLook (nat_lit 15) [] [] (lkMove g3) p74 
(dLook (nat_lit 16) [] [] (lkMove g10) p75 
(dLook (nat_lit 17) [] [] (lkBin .add g74 g75) p76 
(dLook (nat_lit 18) [] [] (lkIxSl (nat_lit 2) g73 g76) p77 
(dLook (nat_lit 19) [] [] (lkLoadN (nat_lit 2) g77) p78 
(dLook (nat_lit 20) [] [] (lkIxSl (nat_lit 2) g59 g62) p79 
(dTurn (nat_lit 21) [] [] true (xTurn (tnStore (nat_lit 2) g79 g72)) noDst 
(dLook (nat_lit 22) [] [(nat_lit 21)] (lkIxSl (nat_lit 2) g63 g66) p80 
(dTurn (nat_lit 23) [] [(nat_lit 21)] true (xTurn (tnStore (nat_lit 2) g80 g78)) noDst (dEnd [(nat_lit 59), (nat_lit 60), (nat_lit 61), (nat_lit 62), (nat_lit 63), (nat_lit 64), (nat_lit 65), (nat_lit 66), (nat_lit 67), (nat_lit 68), (nat_lit 69), (nat_lit 70), (nat_lit 71), (nat_lit 72), (nat_lit 73), (nat_lit 74), (nat_lit 75), (nat_lit 76), (nat_lit 77), (nat_lit 78), (nat_lit 79), (nat_lit 80)])))))))))))))))))))))))))) (oSet (xMove g11) p81 
(oSet (xMove g81) p10 
oEnd)))))))))))⟩
def q81 : OpdF := kC (.int .u64 (.ofNat (nat_lit 0)))
noncomputable def k60 : KFun := ⟨[rTmp (nat_lit 2) g2], (kSeq (oSet (xMove q81) p2 
oEnd) (kSeq (oSet (xMove g0) p3 
(oSet (xLook (lkIntTo .u64 g3)) p4 
(oSet (xCall q39 [g4]) p5 
(oSet (xLook (lkBin .shl q63 g5)) p6 
(oSet (xMove g6) p2 
oEnd))))) kRet))⟩
def q82 : OpdF := kC (.int .u64 (.ofNat (nat_lit 13)))
def q83 : OpdF := kC (.int .u64 (.ofNat (nat_lit 7)))
def q84 : OpdF := kC (.int .u64 (.ofNat (nat_lit 17)))
noncomputable def k61 : KFun := ⟨[rTmp (nat_lit 2) g2], (kSeq (oSet (xMove q81) p2 
oEnd) (kSeq (kDraw 
(dLook (nat_lit 0) [] [] (lkMove g0) p3 
(dTurn (nat_lit 1) [] [] false (xNil g3) p4 
(dLook (nat_lit 2) [] [] (lkLoad1 g4) p5 
(dLook (nat_lit 3) [] [] (lkMove g0) p6 
(dTurn (nat_lit 4) [] [] false (xNil g6) p7 
(dLook (nat_lit 5) [] [] (lkLoad1 g7) p8 
(dLook (nat_lit 6) [] [] (lkBin .shl g8 q82) p9 
(dLook (nat_lit 7) [] [] (lkBin .xor g5 g9) p10 
(dTurn (nat_lit 8) [] [] false (xNil g3) p11 
(dTurn (nat_lit 9) [] [] true (xTurn (tnStore (nat_lit 1) g11 g10)) noDst (dEnd [(nat_lit 3), (nat_lit 4), (nat_lit 5), (nat_lit 6), (nat_lit 7), (nat_lit 8), (nat_lit 9), (nat_lit 10), (nat_lit 11)])))))))))))) (kSeq (kDraw 
(dLook (nat_lit 0) [] [] (lkMove g0) p12 
(dTurn (nat_lit 1) [] [] false (xNil g12) p13 
(dLook (nat_lit 2) [] [] (lkLoad1 g13) p14 
(dLook (nat_lit 3) [] [] (lkMove g0) p15 
(dTurn (nat_lit 4) [] [] false (xNil g15) p16 
(dLook (nat_lit 5) [] [] (lkLoad1 g16) p17 
(dLook (nat_lit 6) [] [] (lkBin .shr g17 q83) p18 
(dLook (nat_lit 7) [] [] (lkBin .xor g14 g18) p19 
(dTurn (nat_lit 8) [] [] false (xNil g12) p20 
(dTurn (nat_lit 9) [] [] true (xTurn (tnStore (nat_lit 1) g20 g19)) noDst (dEnd [(nat_lit 12), (nat_lit 13), (nat_lit 14), (nat_lit 15), (nat_lit 16), (nat_lit 17), (nat_lit 18), (nat_lit 19), (nat_lit 20)])))))))))))) (kSeq (kDraw 
(dLook (nat_lit 0) [] [] (lkMove g0) p21 
(dTurn (nat_lit 1) [] [] false (xNil g21) p22 
(dLook (nat_lit 2) [] [] (lkLoad1 g22) p23 
(dLook (nat_lit 3) [] [] (lkMove g0) p24 
(dTurn (nat_lit 4) [] [] false (xNil g24) p25 
(dLook (nat_lit 5) [] [] (lkLoad1 g25) p26 
(dLook (nat_lit 6) [] [] (lkBin .shl g26 q84) p27 
(dLook (nat_lit 7) [] [] (lkBin .xor g23 g27) p28 
(dTurn (nat_lit 8) [] [] false (xNil g21) p29 
(dTurn (nat_lit 9) [] [] true (xTurn (tnStore (nat_lit 1) g29 g28)) noDst (dEnd [(nat_lit 21), (nat_lit 22), (nat_lit 23), (nat_lit 24), (nat_lit 25), (nat_lit 26), (nat_lit 27), (nat_lit 28), (nat_lit 29)])))))))))))) (kSeq (oSet (xMove g0) p30 
(oSet (xNil g30) p31 
(oSet (xLook (lkLoad1 g31)) p32 
(oSet (xMove g32) p2 
oEnd)))) kRet)))))⟩
noncomputable def k62 : KFun := ⟨[rTmp (nat_lit 8) g8], (kSeq (oSet (xMove q29) p8 
oEnd) (kSeq (oSet (xMove g0) p9 
(oSet (xMove g1) p10 
(oSet (xLook (lkBin .sub g10 q30)) p11 
(oSet (xMove g1) p12 
(oSet (xMove g1) p13 
(oSet (xLook (lkBin .add g13 q30)) p14 
(oSet (xMove g2) p15 
(oSet (xMove g3) p16 
(oSet (xCall q68 [g9, g11, g12, g14, g15, g16]) p17 
(oSet (xMove g17) p8 
oEnd)))))))))) kRet))⟩
def q85 : OpdF := kC (.func (.func (nat_lit 64)) ⟨[]⟩ ⟨[]⟩)
noncomputable def k63 : KFun := ⟨[rTmp (nat_lit 12) g12], (kSeq (oSet (xMove q29) p12 
oEnd) (kSeq (oSet (xMove g0) p14 
(oSet (xMove g1) p15 
(oSet (xMove g2) p16 
(oSet (xMove g4) p17 
(oSet (xMove g5) p18 
(oSet (xCall q85 [g14, g15, g16, g17, g18]) p19 
(oSet (xMove g19) p13 
(oSet (xLook (lkExtract (nat_lit 0) g13)) p20 
(oSet (xLook (lkExtract (nat_lit 1) g13)) p21 
(oSet (xMove g20) p1 
(oSet (xMove g21) p2 
oEnd))))))))))) (kSeq (oSet (xMove g0) p23 
(oSet (xMove g2) p24 
(oSet (xMove g3) p25 
(oSet (xMove g4) p26 
(oSet (xMove g5) p27 
(oSet (xCall q85 [g23, g24, g25, g26, g27]) p28 
(oSet (xMove g28) p22 
(oSet (xLook (lkExtract (nat_lit 0) g22)) p29 
(oSet (xLook (lkExtract (nat_lit 1) g22)) p30 
(oSet (xMove g29) p2 
(oSet (xMove g30) p3 
oEnd))))))))))) (kSeq (oSet (xMove g0) p32 
(oSet (xMove g1) p33 
(oSet (xMove g2) p34 
(oSet (xMove g4) p35 
(oSet (xMove g5) p36 
(oSet (xCall q85 [g32, g33, g34, g35, g36]) p37 
(oSet (xMove g37) p31 
(oSet (xLook (lkExtract (nat_lit 0) g31)) p38 
(oSet (xLook (lkExtract (nat_lit 1) g31)) p39 
(oSet (xMove g38) p1 
(oSet (xMove g39) p2 
oEnd))))))))))) (kSeq (oSet (xMove g2) p40 
(oSet (xMove g40) p12 
oEnd)) kRet)))))⟩
noncomputable def k64 : KFun := ⟨[rTmp (nat_lit 10) g10, rTmp (nat_lit 11) g11], (kSeq (oSet (xMove q29) p10 
(oSet (xMove q29) p11 
oEnd)) (kSeq (kSeq (kDraw 
(dLook (nat_lit 0) [] [] (lkMove g4) p12 
(dLook (nat_lit 1) [] [] (lkMove g0) p13 
(dLook (nat_lit 2) [] [] (lkMove g2) p14 
(dLook (nat_lit 3) [] [] (lkIxSl (nat_lit 2) g13 g14) p15 
(dLook (nat_lit 4) [] [] (lkLoadN (nat_lit 2) g15) p16 
(dLook (nat_lit 5) [] [] (lkMove g0) p17 
(dLook (nat_lit 6) [] [] (lkMove g1) p18 
(dLook (nat_lit 7) [] [] (lkIxSl (nat_lit 2) g17 g18) p19 
(dLook (nat_lit 8) [] [] (lkLoadN (nat_lit 2) g19) p20 
(dTurn (nat_lit 9) [] [] true (xCall g12 [g16, g20]) p21 
(dLook (nat_lit 10) [] [(nat_lit 9)] (lkBin .lss g21 q29) p22 (dEnd [(nat_lit 12), (nat_lit 13), (nat_lit 14), (nat_lit 15), (nat_lit 16), (nat_lit 17), (nat_lit 18), (nat_lit 19), (nat_lit 20), (nat_lit 21), (nat_lit 22)]))))))))))))) (kCond g22 (kSeq (oSet (xMove g3) p23 
(oSet (xNil g23) p24 
(oSet (xLook (lkLoad1 g24)) p25 
(oSet (xLook (lkBin .add g25 q30)) p26 
(oSet (xNil g23) p27 
(oDo (xTurn (tnStore (nat_lit 1) g27 g26)) 
oEnd)))))) (kSeq (oSet (xMove g2) p28 
(oSet (xMove g1) p29 
(oSet (xMove g28) p10 
(oSet (xMove g29) p11 
oEnd)))) kRet)) kSkip)) (kSeq (oSet (xMove g1) p30 
(oSet (xMove g2) p31 
(oSet (xMove g30) p10 
(oSet (xMove g31) p11 
oEnd)))) kRet)))⟩
noncomputable def tab : Tr KFun := (.node none (.node none (.node none (.node none (.node none (.node (some k31) (.node (some k63) .nil .nil) .nil) (.node (some k47) .nil .nil)) (.node (some k23) (.node (some k39) .nil .nil) (.node (some k55) .nil .nil))) (.node (some k11) (.node (some k19) .nil (.node (some k51) .nil .nil)) (.node none (.node (some k43) .nil .nil) (.node (some k59) .nil .nil)))) (.node none (.node (some k9) (.node (some k17) .nil (.node (some k49) .nil .nil)) (.node none (.node (some k41) .nil .nil) (.node (some k57) .nil .nil))) (.node (some k13) (.node none .nil (.node (some k53) .nil .nil)) (.node none (.node (some k45) .nil .nil) (.node (some k61) .nil .nil))))) (.node none (.node none (.node (some k8) (.node none (.node (some k32) (.node (some k64) .nil .nil) .nil) (.node (some k48) .nil .nil)) (.node none (.node (some k40) .nil .nil) (.node (some k56) .nil .nil))) (.node (some k12) (.node none (.node (some k36) .nil .nil) (.node (some k52) .nil .nil)) (.node (some k28) (.node (some k44) .nil .nil) (.node (some k60) .nil .nil)))) (.node none (.node none (.node none (.node (some k34) .nil .nil) (.node (some k50) .nil .nil)) (.node none (.node (some k42) .nil .nil) (.node (some k58) .nil .nil))) (.node none (.node (some k22) (.node (some k38) .nil .nil) (.node (some k54) .nil .nil)) (.node none (.node (some k46) .nil .nil) (.node (some k62) .nil .nil))))))
end Go.Proofs.Ytfknpknbgfkbdaa.Eng
