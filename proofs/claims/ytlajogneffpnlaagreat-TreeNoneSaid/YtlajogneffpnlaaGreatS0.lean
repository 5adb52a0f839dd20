/-
  The functions that the law reaches, as the abstract machine runs them, printed by program. No condition.
-/
import Derived.Test.YtlajogneffpnlaaGreatA
namespace Go.Proofs.YtlajogneffpnlaaGreat.Eng
open Go Go.Eng
set_option linter.unusedVariables false
set_option maxRecDepth 100000

def q0 : OpdF := kC (.bool false)
def q1 : OpdF := kC (.int .i64 (.ofNat (nat_lit 100)))
def q2 : OpdF := kC (.bool true)
def q3 : OpdF := kC (.func (.func (nat_lit 44)) ⟨[]⟩ ⟨[]⟩)
def q4 : OpdF := kC (.pointer none)
def q5 : OpdF := kC (.slice none (nat_lit 0) (nat_lit 0))
def q6 : List Value := [(.int .u8 (.ofNat (nat_lit 0))), (.int .u8 (.ofNat (nat_lit 0))), (.int .u8 (.ofNat (nat_lit 0))), (.int .u8 (.ofNat (nat_lit 0))), (.int .u8 (.ofNat (nat_lit 0))), (.int .u8 (.ofNat (nat_lit 0))), (.int .u8 (.ofNat (nat_lit 0))), (.int .u8 (.ofNat (nat_lit 0))), (.int .u8 (.ofNat (nat_lit 0))), (.int .u8 (.ofNat (nat_lit 0))), (.int .u8 (.ofNat (nat_lit 0))), (.int .u8 (.ofNat (nat_lit 0))), (.int .u8 (.ofNat (nat_lit 0))), (.int .u8 (.ofNat (nat_lit 0))), (.int .u8 (.ofNat (nat_lit 0))), (.int .u8 (.ofNat (nat_lit 0))), (.int .u8 (.ofNat (nat_lit 0))), (.int .u8 (.ofNat (nat_lit 0))), (.int .u8 (.ofNat (nat_lit 0))), (.int .u8 (.ofNat (nat_lit 0))), (.int .u8 (.ofNat (nat_lit 0))), (.int .u8 (.ofNat (nat_lit 0))), (.int .u8 (.ofNat (nat_lit 0))), (.int .u8 (.ofNat (nat_lit 0))), (.int .u8 (.ofNat (nat_lit 0))), (.int .u8 (.ofNat (nat_lit 0))), (.int .u8 (.ofNat (nat_lit 0))), (.int .u8 (.ofNat (nat_lit 0))), (.int .u8 (.ofNat (nat_lit 0))), (.int .u8 (.ofNat (nat_lit 0))), (.int .u8 (.ofNat (nat_lit 0))), (.int .u8 (.ofNat (nat_lit 0)))]
def q7 : OpdF := kC (.func (.func (nat_lit 45)) ⟨[]⟩ ⟨[]⟩)
def q8 : OpdF := kC (.func (.func (nat_lit 46)) ⟨[]⟩ ⟨[]⟩)
def q9 : OpdF := kC (.func (.func (nat_lit 47)) ⟨[]⟩ ⟨[]⟩)
def q10 : OpdF := kC (.func (.func (nat_lit 48)) ⟨[]⟩ ⟨[]⟩)
def q11 : OpdF := kC (.int .i64 (.ofNat (nat_lit 1)))
def q12 : OpdF := kC (.func (.func (nat_lit 49)) ⟨[]⟩ ⟨[]⟩)
noncomputable def k7 : KFun := ⟨[rTmp (nat_lit 4) g4], (kSeq (oSet (xTurn (tnBox g0)) p2 
(oSet (xMove q0) p4 
oEnd)) (kSeq (kSeq (oSet (xMove g1) p16 
(oSet (xLook (lkLen .str g16)) p17 
(oSet (xLook (lkBin .gtr g17 q1)) p18 
oEnd))) (kCond g18 (kSeq (oSet (xMove q2) p4 
oEnd) kRet) kSkip)) (kSeq (oSet (xCall q3 [q4, q5]) p20 
(oSet (xMove g20) p19 
(oSet (xLook (lkExtract (nat_lit 0) g19)) p21 
(oSet (xLook (lkExtract (nat_lit 1) g19)) p22 
(oSet (xTurn (tnAlloc q6)) p5 
(oDo (xTurn (tnStore (nat_lit 32) g5 g21)) 
(oSet (xMove g22) p6 
oEnd))))))) (kSeq (oSet (xLook (lkLoadN (nat_lit 32) g2)) p24 
(oSet (xMove g1) p25 
(oSet (xCall q7 [q4, g24, g25]) p26 
(oSet (xMove g26) p23 
(oSet (xLook (lkExtract (nat_lit 0) g23)) p27 
(oSet (xLook (lkExtract (nat_lit 1) g23)) p28 
(oSet (xLook (lkExtract (nat_lit 2) g23)) p29 
(oSet (xMove g27) p7 
(oSet (xMove g28) p8 
(oSet (xMove g29) p9 
oEnd)))))))))) (kSeq (oSet (xLook (lkLoadN (nat_lit 32) g2)) p31 
(oSet (xCall q8 [q4, g31]) p32 
(oSet (xMove g32) p30 
(oSet (xLook (lkExtract (nat_lit 0) g30)) p33 
(oSet (xLook (lkExtract (nat_lit 1) g30)) p34 
(oSet (xMove g33) p10 
(oSet (xMove g34) p11 
oEnd))))))) (kSeq (oSet (xLook (lkLoadN (nat_lit 32) g2)) p36 
(oSet (xCall q9 [q4, g36]) p37 
(oSet (xMove g37) p35 
(oSet (xLook (lkExtract (nat_lit 0) g35)) p38 
(oSet (xLook (lkExtract (nat_lit 1) g35)) p39 
(oSet (xMove g38) p12 
(oSet (xMove g39) p13 
oEnd))))))) (kSeq (oSet (xLook (lkLoadN (nat_lit 32) g2)) p41 
(oSet (xCall q10 [q4, g41, q5]) p42 
(oSet (xMove g42) p40 
(oSet (xLook (lkExtract (nat_lit 0) g40)) p43 
(oSet (xLook (lkExtract (nat_lit 1) g40)) p44 
(oSet (xTurn (tnAlloc q6)) p14 
(oDo (xTurn (tnStore (nat_lit 32) g14 g43)) 
(oSet (xMove g44) p15 
oEnd)))))))) (kSeq (oSet (xMove g6) p45 
(oSet (xLook (lkEq false .int g45 q11)) p46 
(oSet (xMove g46) p47 
(oSetIf (wantT g47) (xMove g9) p48 
(oSetIf (wantT g47) (xLook (lkEq false .int g48 q11)) p49 
(oSet (xLook (lkPick g47 g49 q0)) p50 
(oSet (xMove g50) p51 
(oSetIf (wantT g51) (xMove g11) p52 
(oSetIf (wantT g51) (xLook (lkEq false .int g52 q11)) p53 
(oSet (xLook (lkPick g51 g53 q0)) p54 
(oSet (xMove g54) p55 
(oSetIf (wantT g55) (xMove g13) p56 
(oSetIf (wantT g55) (xLook (lkEq false .int g56 q11)) p57 
(oSet (xLook (lkPick g55 g57 q0)) p58 
(oSet (xMove g58) p59 
(oSetIf (wantT g59) (xMove g15) p60 
(oSetIf (wantT g59) (xLook (lkEq false .int g60 q11)) p61 
(oSet (xLook (lkPick g59 g61 q0)) p62 
(oSet (xMove g62) p63 
(oSetIf (wantT g63) (xCall q12 []) p64 
(oSet (xLook (lkPick g63 g64 q0)) p65 
(oSet (xMove g65) p4 
oEnd)))))))))))))))))))))) kRet))))))))⟩
def q13 : OpdF := kC (.func (.func (nat_lit 77)) ⟨[]⟩ ⟨[]⟩)
def q14 : OpdF := kC (.func (.func (nat_lit 78)) ⟨[]⟩ ⟨[]⟩)
def q15 : OpdF := kC (.func (.func (nat_lit 79)) ⟨[]⟩ ⟨[]⟩)
noncomputable def k20 : KFun := ⟨[rCellN (nat_lit 2) g2 (nat_lit 32)], (kSeq (oSet (xTurn (tnAlloc q6)) p2 
oEnd) (kSeq (oSet (xCall q13 []) p4 
(oSet (xMove g4) p3 
oEnd)) (kSeq (oSet (xMove g3) p5 
(oSet (xMove g0) p6 
(oSet (xCall q14 [g5, g6]) p7 
oEnd))) (kSeq (oSet (xMove g3) p8 
(oSet (xCall q15 [g8]) p9 
(oDo (xTurn (tnStore (nat_lit 32) g2 g9)) 
oEnd))) kRet))))⟩
def q16 : OpdF := kC (.int .i64 (.ofNat (nat_lit 0)))
def q17 : OpdF := kC (.func (.func (nat_lit 86)) ⟨[]⟩ ⟨[]⟩)
def q18 : OpdF := kC (.func (.func (nat_lit 87)) ⟨[]⟩ ⟨[]⟩)
def q19 : OpdF := kC (.int .i64 (.ofNat (nat_lit 4)))
def q20 : OpdF := kC (.int .i64 (.ofNat (nat_lit 8)))
def q21 : OpdF := kC (.func (.func (nat_lit 85)) ⟨[]⟩ ⟨[]⟩)
def q22 : List Value := [(.slice none (nat_lit 0) (nat_lit 0)), (.map none), (.pointer none), (.int .i64 (.ofNat (nat_lit 0))), (.int .u8 (.ofNat (nat_lit 0))), (.int .u8 (.ofNat (nat_lit 0))), (.int .u8 (.ofNat (nat_lit 0))), (.int .u8 (.ofNat (nat_lit 0))), (.int .u8 (.ofNat (nat_lit 0))), (.int .u8 (.ofNat (nat_lit 0))), (.int .u8 (.ofNat (nat_lit 0))), (.int .u8 (.ofNat (nat_lit 0))), (.int .u8 (.ofNat (nat_lit 0))), (.int .u8 (.ofNat (nat_lit 0))), (.int .u8 (.ofNat (nat_lit 0))), (.int .u8 (.ofNat (nat_lit 0))), (.int .u8 (.ofNat (nat_lit 0))), (.int .u8 (.ofNat (nat_lit 0))), (.int .u8 (.ofNat (nat_lit 0))), (.int .u8 (.ofNat (nat_lit 0))), (.int .u8 (.ofNat (nat_lit 0))), (.int .u8 (.ofNat (nat_lit 0))), (.int .u8 (.ofNat (nat_lit 0))), (.int .u8 (.ofNat (nat_lit 0))), (.int .u8 (.ofNat (nat_lit 0))), (.int .u8 (.ofNat (nat_lit 0))), (.int .u8 (.ofNat (nat_lit 0))), (.int .u8 (.ofNat (nat_lit 0))), (.int .u8 (.ofNat (nat_lit 0))), (.int .u8 (.ofNat (nat_lit 0))), (.int .u8 (.ofNat (nat_lit 0))), (.int .u8 (.ofNat (nat_lit 0))), (.int .u8 (.ofNat (nat_lit 0))), (.int .u8 (.ofNat (nat_lit 0))), (.int .u8 (.ofNat (nat_lit 0))), (.int .u8 (.ofNat (nat_lit 0))), (.int .i64 (.ofNat (nat_lit 0))), (.int .i64 (.ofNat (nat_lit 0))), (.map none), (.bool false)]
def q23 : OpdF := kC (.func (.func (nat_lit 88)) ⟨[]⟩ ⟨[]⟩)
def q24 : List Value := [(.int .i64 (.ofNat (nat_lit 0))), (.int .u8 (.ofNat (nat_lit 0))), (.int .u8 (.ofNat (nat_lit 0))), (.int .u8 (.ofNat (nat_lit 0))), (.int .u8 (.ofNat (nat_lit 0))), (.int .u8 (.ofNat (nat_lit 0))), (.int .u8 (.ofNat (nat_lit 0))), (.int .u8 (.ofNat (nat_lit 0))), (.int .u8 (.ofNat (nat_lit 0))), (.int .u8 (.ofNat (nat_lit 0))), (.int .u8 (.ofNat (nat_lit 0))), (.int .u8 (.ofNat (nat_lit 0))), (.int .u8 (.ofNat (nat_lit 0))), (.int .u8 (.ofNat (nat_lit 0))), (.int .u8 (.ofNat (nat_lit 0))), (.int .u8 (.ofNat (nat_lit 0))), (.int .u8 (.ofNat (nat_lit 0))), (.int .u8 (.ofNat (nat_lit 0))), (.int .u8 (.ofNat (nat_lit 0))), (.int .u8 (.ofNat (nat_lit 0))), (.int .u8 (.ofNat (nat_lit 0))), (.int .u8 (.ofNat (nat_lit 0))), (.int .u8 (.ofNat (nat_lit 0))), (.int .u8 (.ofNat (nat_lit 0))), (.int .u8 (.ofNat (nat_lit 0))), (.int .u8 (.ofNat (nat_lit 0))), (.int .u8 (.ofNat (nat_lit 0))), (.int .u8 (.ofNat (nat_lit 0))), (.int .u8 (.ofNat (nat_lit 0))), (.int .u8 (.ofNat (nat_lit 0))), (.int .u8 (.ofNat (nat_lit 0))), (.int .u8 (.ofNat (nat_lit 0))), (.int .u8 (.ofNat (nat_lit 0))), (.int .i64 (.ofNat (nat_lit 0))), (.int .i64 (.ofNat (nat_lit 0)))]
def q25 : OpdF := kC (.int .i64 (.ofNat (nat_lit 6)))
def q26 : List Value := [(.int .i64 (.ofNat (nat_lit 0))), (.int .i64 (.ofNat (nat_lit 0)))]
def q27 : OpdF := kC (.func (.func (nat_lit 89)) ⟨[]⟩ ⟨[]⟩)
def q28 : OpdF := kC (.int .i64 (.ofNat (nat_lit 11)))
def q29 : OpdF := kC (.func (.func (nat_lit 90)) ⟨[]⟩ ⟨[]⟩)
def q30 : OpdF := kC (.func (.func (nat_lit 91)) ⟨[]⟩ ⟨[]⟩)
def q31 : OpdF := kC (.func (.func (nat_lit 92)) ⟨[]⟩ ⟨[]⟩)
def q32 : OpdF := kC (.int .i64 (.ofNat (nat_lit 2)))
def q33 : OpdF := kC (.func (.func (nat_lit 93)) ⟨[]⟩ ⟨[]⟩)
noncomputable def k23 : KFun := ⟨[rTmp (nat_lit 2) g2, rTmp (nat_lit 3) g3], (kSeq (oSet (xMove q4) p2 
(oSet (xMove q16) p3 
oEnd)) (kSeq (kSeq (oSet (xMove g0) p16 
(oSet (xCall q17 [g16, q16]) p17 
(oSet (xMove g17) p15 
(oSet (xLook (lkExtract (nat_lit 0) g15)) p18 
(oSet (xLook (lkExtract (nat_lit 1) g15)) p19 
(oSet (xMove g18) p4 
(oSet (xMove g19) p5 
oEnd))))))) (kSeq (oSet (xMove g5) p20 
(oSet (xLook (lkEq false .int g20 q11)) p21 
oEnd)) (kCond g21 (kSeq (oSet (xMove g5) p22 
(oSet (xMove q4) p2 
(oSet (xMove g22) p3 
oEnd))) kRet) kSkip))) (kSeq (kSeq (oSet (xMove g0) p23 
(oSet (xCall q18 [g23]) p24 
(oSet (xLook (lkBin .lss g24 q19)) p25 
oEnd))) (kCond g25 (kSeq (oSet (xMove q4) p2 
(oSet (xMove q20) p3 
oEnd)) kRet) kSkip)) (kSeq (oSet (xCall q21 []) p26 
(oSet (xMove g0) p27 
(oSet (xTurn (tnMkMap (.many (nat_lit 32) .u8))) p28 
(oSet (xLook (lkBuild q22 [((nat_lit 0), (nat_lit 2), g26), ((nat_lit 2), (nat_lit 1), g27), ((nat_lit 38), (nat_lit 1), g28)])) p29 
(oSet (xTurn (tnBox g29)) p30 
(oSet (xMove g30) p6 
oEnd)))))) (kSeq (oSet (xMove g0) p32 
(oSet (xCall q23 [g32]) p33 
(oSet (xMove g33) p31 
(oSet (xLook (lkExtract (nat_lit 0) g31)) p34 
(oSet (xLook (lkExtract (nat_lit 1) g31)) p35 
(oSet (xLook (lkExtract (nat_lit 2) g31)) p36 
(oSet (xTurn (tnAlloc q24)) p7 
(oDo (xTurn (tnStore (nat_lit 35) g7 g34)) 
(oSet (xMove g35) p8 
(oSet (xMove g36) p9 
oEnd)))))))))) (kSeq (kSeq (oSet (xMove g9) p37 
oEnd) (kBlock (nat_lit 0) (kSeq (oSet (xLook (lkEq false .int g37 q16)) p40 
(oSet (xMove g40) p39 
oEnd)) (kCond g39 kSkip (kSeq (oSet (xLook (lkEq false .int g37 q25)) p42 
(oSet (xMove g42) p41 
oEnd)) (kCond g41 (kSeq (oSet (xMove g6) p43 
(oSet (xMove g43) p2 
(oSet (xMove q16) p3 
oEnd))) kRet) (kSeq (oSet (xMove g9) p38 
(oSet (xMove q4) p2 
(oSet (xMove g38) p3 
oEnd))) kRet))))))) (kSeq (kDraw 
(dLook (nat_lit 0) [] [] (lkMove g6) p44 
(dLook (nat_lit 1) [] [] (lkMove g6) p45 
(dLook (nat_lit 2) [] [] (lkMove g6) p46 
(dLook (nat_lit 3) [] [] (lkFieldAddr (nat_lit 0) g7) p47 
(dLook (nat_lit 4) [] [] (lkLoad1 g47) p48 
(dLook (nat_lit 5) [] [] (lkFieldAddr (nat_lit 1) g7) p49 
(dLook (nat_lit 6) [] [] (lkLoadN (nat_lit 32) g49) p50 
(dLook (nat_lit 7) [] [] (lkFieldAddr (nat_lit 33) g7) p51 
(dLook (nat_lit 8) [] [] (lkLoad1 g51) p52 
(dLook (nat_lit 9) [] [] (lkFieldAddr (nat_lit 34) g7) p53 
(dLook (nat_lit 10) [] [] (lkLoad1 g53) p54 
(dLook (nat_lit 11) [] [] (lkBuild q26 [((nat_lit 0), (nat_lit 1), g52), ((nat_lit 1), (nat_lit 1), g54)]) p55 
(dTurn (nat_lit 12) [] [] false (xNil g44) p56 
(dLook (nat_lit 13) [] [] (lkFieldAddr (nat_lit 3) g56) p57 
(dTurn (nat_lit 14) [(nat_lit 6), (nat_lit 8), (nat_lit 10)] [] true (xTurn (tnStore (nat_lit 1) g57 g48)) noDst 
(dTurn (nat_lit 15) [] [(nat_lit 14)] false (xNil g45) p58 
(dLook (nat_lit 16) [] [(nat_lit 14)] (lkFieldAddr (nat_lit 4) g58) p59 
(dTurn (nat_lit 17) [(nat_lit 8), (nat_lit 10)] [(nat_lit 14)] true (xTurn (tnStore (nat_lit 32) g59 g50)) noDst 
(dTurn (nat_lit 18) [] [(nat_lit 14), (nat_lit 17)] false (xNil g46) p60 
(dLook (nat_lit 19) [] [(nat_lit 14), (nat_lit 17)] (lkFieldAddr (nat_lit 36) g60) p61 
(dTurn (nat_lit 20) [] [(nat_lit 14), (nat_lit 17)] true (xTurn (tnStore (nat_lit 2) g61 g55)) noDst (dEnd [(nat_lit 44), (nat_lit 45), (nat_lit 46), (nat_lit 47), (nat_lit 48), (nat_lit 49), (nat_lit 50), (nat_lit 51), (nat_lit 52), (nat_lit 53), (nat_lit 54), (nat_lit 55), (nat_lit 56), (nat_lit 57), (nat_lit 58), (nat_lit 59), (nat_lit 60), (nat_lit 61)]))))))))))))))))))))))) (kSeq (kSeq (oSet (xMove g0) p62 
(oSet (xMove g6) p63 
(oSet (xNil g63) p64 
(oSet (xLook (lkFieldAddr (nat_lit 36) g64)) p65 
(oSet (xLook (lkLoadN (nat_lit 2) g65)) p66 
(oSet (xCall q27 [g62, g66]) p67 
(oSet (xLook (lkUn .not g67)) p68 
oEnd))))))) (kCond g68 (kSeq (oSet (xMove q4) p2 
(oSet (xMove q28) p3 
oEnd)) kRet) kSkip)) (kSeq (kDraw 
(dLook (nat_lit 0) [] [] (lkMove g0) p70 
(dLook (nat_lit 1) [] [] (lkFieldAddr (nat_lit 33) g7) p71 
(dLook (nat_lit 2) [] [] (lkLoad1 g71) p72 
(dLook (nat_lit 3) [] [] (lkMove g6) p73 
(dTurn (nat_lit 4) [] [] false (xNil g73) p74 
(dLook (nat_lit 5) [] [] (lkFieldAddr (nat_lit 36) g74) p75 
(dLook (nat_lit 6) [] [] (lkLoadN (nat_lit 2) g75) p76 
(dTurn (nat_lit 7) [(nat_lit 2)] [] true (xCall q30 [g76]) p77 
(dTurn (nat_lit 8) [] [(nat_lit 7)] true (xCall q29 [g70, g72, g77]) p78 
(dLook (nat_lit 9) [] [(nat_lit 7), (nat_lit 8)] (lkMove g78) p69 
(dLook (nat_lit 10) [] [(nat_lit 7), (nat_lit 8)] (lkExtract (nat_lit 0) g69) p79 
(dLook (nat_lit 11) [] [(nat_lit 7), (nat_lit 8)] (lkExtract (nat_lit 1) g69) p80 
(dLook (nat_lit 12) [] [(nat_lit 7), (nat_lit 8)] (lkMove g79) p10 
(dLook (nat_lit 13) [] [(nat_lit 7), (nat_lit 8)] (lkMove g80) p9 (dEnd [(nat_lit 70), (nat_lit 71), (nat_lit 72), (nat_lit 73), (nat_lit 74), (nat_lit 75), (nat_lit 76), (nat_lit 77), (nat_lit 78), (nat_lit 69), (nat_lit 79), (nat_lit 80), (nat_lit 10), (nat_lit 9)])))))))))))))))) (kSeq (kSeq (oSet (xMove g9) p81 
(oSet (xLook (lkEq true .int g81 q16)) p82 
oEnd)) (kCond g82 (kSeq (oSet (xMove g9) p83 
(oSet (xMove q4) p2 
(oSet (xMove g83) p3 
oEnd))) kRet) kSkip)) (kSeq (oSet (xMove g10) p85 
(oSet (xCall q31 [g85]) p86 
(oSet (xMove g86) p84 
(oSet (xLook (lkExtract (nat_lit 0) g84)) p87 
(oSet (xLook (lkExtract (nat_lit 1) g84)) p88 
(oSet (xLook (lkExtract (nat_lit 2) g84)) p89 
(oSet (xMove g87) p11 
(oSet (xMove g88) p12 
(oSet (xMove g89) p9 
oEnd))))))))) (kSeq (kSeq (oSet (xMove g9) p90 
(oSet (xLook (lkEq true .int g90 q16)) p91 
(oSet (xMove g91) p92 
(oSetIf (wantF g92) (xMove g11) p93 
(oSetIf (wantF g92) (xLook (lkEq true .int g93 q32)) p94 
(oSet (xLook (lkPick g92 q2 g94)) p95 
(oSet (xMove g95) p96 
(oSetIf (wantF g96) (xMove g12) p97 
(oSetIf (wantF g96) (xLook (lkLen .sl g97)) p98 
(oSetIf (wantF g96) (xLook (lkFieldAddr (nat_lit 34) g7)) p99 
(oSetIf (wantF g96) (xLook (lkLoad1 g99)) p100 
(oSetIf (wantF g96) (xLook (lkEq true .int g98 g100)) p101 
(oSet (xLook (lkPick g96 q2 g101)) p102 
oEnd))))))))))))) (kCond g102 (kSeq (oSet (xMove q4) p2 
(oSet (xMove q28) p3 
oEnd)) kRet) kSkip)) (kSeq (oSet (xMove g0) p104 
(oSet (xMove g12) p105 
(oSet (xMove g6) p106 
(oSet (xNil g106) p107 
(oSet (xLook (lkFieldAddr (nat_lit 36) g107)) p108 
(oSet (xLook (lkLoadN (nat_lit 2) g108)) p109 
(oSet (xCall q33 [g104, g105, g109]) p110 
(oSet (xMove g110) p103 
(oSet (xLook (lkExtract (nat_lit 0) g103)) p111 
(oSet (xLook (lkExtract (nat_lit 1) g103)) p112 
(oSet (xMove g111) p13 
(oSet (xMove g112) p14 
oEnd)))))))))))) (kSeq (kSeq (oSet (xMove g14) p113 
(oSet (xLook (lkUn .not g113)) p114 
oEnd)) (kCond g114 (kSeq (oSet (xMove q4) p2 
(oSet (xMove q28) p3 
oEnd)) kRet) kSkip)) (kSeq (oSet (xMove g6) p115 
(oSet (xMove g13) p116 
(oSet (xNil g115) p117 
(oSet (xLook (lkFieldAddr (nat_lit 38) g117)) p118 
(oDo (xTurn (tnStore (nat_lit 1) g118 g116)) 
oEnd))))) (kSeq (oSet (xMove g6) p119 
(oSet (xMove g119) p2 
(oSet (xMove q16) p3 
oEnd))) kRet))))))))))))))))⟩
def q34 : OpdF := kC (.func (.func (nat_lit 76)) ⟨[]⟩ ⟨[]⟩)
noncomputable def k26d0 : KD := 
(dLook (nat_lit 16) [] [(nat_lit 6), (nat_lit 14)] (lkPick g28 q2 g34) p35 
(dLook (nat_lit 17) [] [(nat_lit 6), (nat_lit 14)] (lkMove g35) p4 (dEnd [(nat_lit 19), (nat_lit 20), (nat_lit 21), (nat_lit 22), (nat_lit 23), (nat_lit 24), (nat_lit 25), (nat_lit 26), (nat_lit 27), (nat_lit 28), (nat_lit 29), (nat_lit 30), (nat_lit 31), (nat_lit 32), (nat_lit 33), (nat_lit 34), (nat_lit 35), (nat_lit 4)])))
def q35 : OpdF := kC (.func (.func (nat_lit 97)) ⟨[]⟩ ⟨[]⟩)
noncomputable def k26d1 : KD := 
(dIf [(nat_lit 6), (nat_lit 14)] (wantF g28) p34 (dLook (nat_lit 15) [] [(nat_lit 6), (nat_lit 14)] (lkBin .geq g33 q16) p34 k26d0) k26d0)
noncomputable def k26d2 : KD := 
(dIf [(nat_lit 6)] (wantF g28) p33 (dTurn (nat_lit 14) [] [(nat_lit 6)] true (xCall q35 [g31, g32]) p33 k26d1) k26d1)
noncomputable def k26d3 : KD := 
(dIf [(nat_lit 6)] (wantF g28) p32 (dLook (nat_lit 13) [] [(nat_lit 6)] (lkLoadN (nat_lit 32) g3) p32 k26d2) k26d2)
noncomputable def k26d4 : KD := 
(dIf [(nat_lit 6)] (wantF g28) p31 (dLook (nat_lit 12) [] [(nat_lit 6)] (lkFieldAddr (nat_lit 0) g30) p31 k26d3) k26d3)
noncomputable def k26d5 : KD := 
(dIf [(nat_lit 6)] (wantF g28) p30 (dTurn (nat_lit 11) [] [(nat_lit 6)] false (xNil g29) p30 k26d4) k26d4)
noncomputable def k26d6 : KD := 
(dLook (nat_lit 8) [] [(nat_lit 6)] (lkPick g20 g26 q0) p27 
(dLook (nat_lit 9) [] [(nat_lit 6)] (lkMove g27) p28 
(dIf [(nat_lit 6)] (wantF g28) p29 (dLook (nat_lit 10) [] [(nat_lit 6)] (lkMove g0) p29 k26d5) k26d5)))
def q36 : OpdF := kC (.func (.func (nat_lit 96)) ⟨[]⟩ ⟨[]⟩)
noncomputable def k26d7 : KD := 
(dIf [(nat_lit 6)] (wantT g20) p26 (dLook (nat_lit 7) [] [(nat_lit 6)] (lkUn .not g25) p26 k26d6) k26d6)
noncomputable def k26d8 : KD := 
(dIf [] (wantT g20) p25 (dTurn (nat_lit 6) [] [] true (xCall q36 [g23, g24]) p25 k26d7) k26d7)
noncomputable def k26d9 : KD := 
(dIf [] (wantT g20) p24 (dLook (nat_lit 5) [] [] (lkLoadN (nat_lit 32) g3) p24 k26d8) k26d8)
noncomputable def k26d10 : KD := 
(dIf [] (wantT g20) p23 (dLook (nat_lit 4) [] [] (lkFieldAddr (nat_lit 0) g22) p23 k26d9) k26d9)
noncomputable def k26d11 : KD := 
(dIf [] (wantT g20) p22 (dTurn (nat_lit 3) [] [] false (xNil g21) p22 k26d10) k26d10)
noncomputable def k26 : KFun := ⟨[rTmp (nat_lit 4) g4], (kSeq (oSet (xTurn (tnBox g1)) p3 
(oSet (xMove q0) p4 
oEnd)) (kSeq (kSeq (oSet (xMove g0) p7 
(oSet (xCall q34 [g7]) p8 
(oSet (xLook (lkEq true .int g8 q16)) p9 
oEnd))) (kCond g9 (kSeq (oSet (xMove q0) p4 
oEnd) kRet) kSkip)) (kSeq (kDraw 
(dLook (nat_lit 0) [] [] (lkMove g0) p11 
(dTurn (nat_lit 1) [] [] false (xNil g11) p12 
(dLook (nat_lit 2) [] [] (lkFieldAddr (nat_lit 38) g12) p13 
(dLook (nat_lit 3) [] [] (lkLoad1 g13) p14 
(dLook (nat_lit 4) [] [] (lkLoadN (nat_lit 32) g3) p15 
(dLook (nat_lit 5) [] [] (lkLookup (.many (nat_lit 32) .u8) (.agg ⟨[(.int .i64 (.ofNat (nat_lit 0))), (.int .i64 (.ofNat (nat_lit 0)))]⟩) true g14 g15) p16 
(dLook (nat_lit 6) [] [] (lkMove g16) p10 
(dLook (nat_lit 7) [] [] (lkExtract (nat_lit 0) g10) p17 
(dLook (nat_lit 8) [] [] (lkExtract (nat_lit 1) g10) p18 
(dTurn (nat_lit 9) [] [] false (xTurn (tnAlloc q26)) p5 
(dTurn (nat_lit 10) [] [] true (xTurn (tnStore (nat_lit 2) g5 g17)) noDst 
(dLook (nat_lit 11) [] [(nat_lit 10)] (lkMove g18) p6 (dEnd [(nat_lit 11), (nat_lit 12), (nat_lit 13), (nat_lit 14), (nat_lit 15), (nat_lit 16), (nat_lit 10), (nat_lit 17), (nat_lit 18), (nat_lit 5), (nat_lit 6)])))))))))))))) (kSeq (kDraw 
(dLook (nat_lit 0) [] [] (lkMove g6) p19 
(dLook (nat_lit 1) [] [] (lkMove g19) p20 
(dIf [] (wantT g20) p21 (dLook (nat_lit 2) [] [] (lkMove g0) p21 k26d11) k26d11)))) kRet))))⟩
def q37 : OpdF := kC (.func (.func (nat_lit 26)) ⟨[]⟩ ⟨[]⟩)
noncomputable def k28d0 : KD := 
(dLook (nat_lit 18) [] [(nat_lit 15)] (lkPick g83 q2 g87) p88 (dEnd [(nat_lit 70), (nat_lit 71), (nat_lit 72), (nat_lit 73), (nat_lit 74), (nat_lit 75), (nat_lit 76), (nat_lit 77), (nat_lit 78), (nat_lit 79), (nat_lit 80), (nat_lit 81), (nat_lit 82), (nat_lit 83), (nat_lit 84), (nat_lit 85), (nat_lit 86), (nat_lit 87), (nat_lit 88)]))
noncomputable def k28d1 : KD := 
(dIf [(nat_lit 15)] (wantF g83) p87 (dLook (nat_lit 17) [] [(nat_lit 15)] (lkEq true (.flat [(.int .u8), (.int .u8), (.int .u8), (.int .u8), (.int .u8), (.int .u8), (.int .u8), (.int .u8), (.int .u8), (.int .u8), (.int .u8), (.int .u8), (.int .u8), (.int .u8), (.int .u8), (.int .u8), (.int .u8), (.int .u8), (.int .u8), (.int .u8), (.int .u8), (.int .u8), (.int .u8), (.int .u8), (.int .u8), (.int .u8), (.int .u8), (.int .u8), (.int .u8), (.int .u8), (.int .u8), (.int .u8)]) g85 g86) p87 k28d0) k28d0)
def q38 : OpdF := kC (.func (.func (nat_lit 20)) ⟨[]⟩ ⟨[]⟩)
noncomputable def k28d2 : KD := 
(dIf [] (wantF g83) p86 (dLook (nat_lit 16) [(nat_lit 15)] [] (lkLoadN (nat_lit 32) g3) p86 k28d1) k28d1)
noncomputable def k28d3 : KD := 
(dIf [] (wantF g83) p85 (dTurn (nat_lit 15) [] [] true (xCall q38 [g84]) p85 k28d2) k28d2)
noncomputable def k28d4 : KD := 
(dLook (nat_lit 12) [] [] (lkPick g76 q2 g81) p82 
(dLook (nat_lit 13) [] [] (lkMove g82) p83 
(dIf [] (wantF g83) p84 (dLook (nat_lit 14) [] [] (lkMove g12) p84 k28d3) k28d3)))
noncomputable def k28d5 : KD := 
(dIf [] (wantF g76) p81 (dLook (nat_lit 11) [] [] (lkEq true .int g78 g80) p81 k28d4) k28d4)
noncomputable def k28d6 : KD := 
(dIf [] (wantF g76) p80 (dLook (nat_lit 10) [] [] (lkLoad1 g79) p80 k28d5) k28d5)
noncomputable def k28d7 : KD := 
(dIf [] (wantF g76) p79 (dLook (nat_lit 9) [] [] (lkFieldAddr (nat_lit 1) g8) p79 k28d6) k28d6)
noncomputable def k28d8 : KD := 
(dIf [] (wantF g76) p78 (dLook (nat_lit 8) [] [] (lkLen .sl g77) p78 k28d7) k28d7)
noncomputable def k28d9 : KD := 
(dLook (nat_lit 5) [] [] (lkPick g72 q2 g74) p75 
(dLook (nat_lit 6) [] [] (lkMove g75) p76 
(dIf [] (wantF g76) p77 (dLook (nat_lit 7) [] [] (lkMove g12) p77 k28d8) k28d8)))
noncomputable def k28d10 : KD := 
(dIf [] (wantF g72) p74 (dLook (nat_lit 4) [] [] (lkEq true .int g73 q11) p74 k28d9) k28d9)
noncomputable def k28 : KFun := ⟨[rTmp (nat_lit 4) g4, rTmp (nat_lit 5) g5], (kSeq (oSet (xTurn (tnBox g1)) p3 
(oSet (xMove q5) p4 
(oSet (xMove q16) p5 
oEnd))) (kSeq (kSeq (oSet (xMove g0) p13 
(oSet (xCall q34 [g13]) p14 
(oSet (xMove g14) p6 
oEnd))) (kSeq (oSet (xMove g6) p15 
(oSet (xLook (lkEq true .int g15 q16)) p16 
oEnd)) (kCond g16 (kSeq (oSet (xMove g6) p17 
(oSet (xMove q5) p4 
(oSet (xMove g17) p5 
oEnd))) kRet) kSkip))) (kSeq (kSeq (oSet (xMove g0) p18 
(oSet (xLook (lkLoadN (nat_lit 32) g3)) p19 
(oSet (xCall q37 [g18, g19]) p20 
(oSet (xLook (lkUn .not g20)) p21 
oEnd)))) (kCond g21 (kSeq (oSet (xMove q5) p4 
(oSet (xMove q25) p5 
oEnd)) kRet) kSkip)) (kSeq (kSeq (kDraw 
(dLook (nat_lit 0) [] [] (lkMove g0) p22 
(dTurn (nat_lit 1) [] [] false (xNil g22) p23 
(dLook (nat_lit 2) [] [] (lkFieldAddr (nat_lit 0) g23) p24 
(dLook (nat_lit 3) [] [] (lkLoadN (nat_lit 32) g3) p25 
(dTurn (nat_lit 4) [] [] true (xCall q35 [g24, g25]) p26 
(dLook (nat_lit 5) [] [(nat_lit 4)] (lkMove g26) p7 (dEnd [(nat_lit 22), (nat_lit 23), (nat_lit 24), (nat_lit 25), (nat_lit 26), (nat_lit 7)])))))))) (kSeq (oSet (xMove g7) p27 
(oSet (xLook (lkBin .geq g27 q16)) p28 
oEnd)) (kCond g28 (kSeq (oSet (xTurn (tnBuildSlice [] [] (nat_lit 0))) p29 
(oSet (xMove g0) p30 
(oSet (xNil g30) p31 
(oSet (xLook (lkFieldAddr (nat_lit 0) g31)) p32 
(oSet (xLook (lkFieldAddr (nat_lit 0) g32)) p33 
(oSet (xLook (lkLoad1 g33)) p34 
(oSet (xMove g7) p35 
(oSet (xLook (lkIxSl (nat_lit 35) g34 g35)) p36 
(oSet (xLook (lkFieldAddr (nat_lit 34) g36)) p37 
(oSet (xLook (lkLoad1 g37)) p38 
(oSet (xTurn (tnAppend (nat_lit 1) g29 g38)) p39 
(oSet (xMove g39) p4 
(oSet (xMove q16) p5 
oEnd))))))))))))) kRet) kSkip))) (kSeq (kDraw 
(dLook (nat_lit 0) [] [] (lkMove g0) p40 
(dTurn (nat_lit 1) [] [] false (xNil g40) p41 
(dLook (nat_lit 2) [] [] (lkFieldAddr (nat_lit 38) g41) p42 
(dLook (nat_lit 3) [] [] (lkLoad1 g42) p43 
(dLook (nat_lit 4) [] [] (lkLoadN (nat_lit 32) g3) p44 
(dLook (nat_lit 5) [] [] (lkLookup (.many (nat_lit 32) .u8) (.agg ⟨[(.int .i64 (.ofNat (nat_lit 0))), (.int .i64 (.ofNat (nat_lit 0)))]⟩) false g43 g44) p45 
(dTurn (nat_lit 6) [] [] false (xTurn (tnAlloc q26)) p8 
(dTurn (nat_lit 7) [] [] true (xTurn (tnStore (nat_lit 2) g8 g45)) noDst (dEnd [(nat_lit 40), (nat_lit 41), (nat_lit 42), (nat_lit 43), (nat_lit 44), (nat_lit 45), (nat_lit 8)])))))))))) (kSeq (kDraw 
(dLook (nat_lit 0) [] [] (lkMove g0) p47 
(dTurn (nat_lit 1) [] [] false (xNil g47) p48 
(dLook (nat_lit 2) [] [] (lkFieldAddr (nat_lit 2) g48) p49 
(dLook (nat_lit 3) [] [] (lkLoad1 g49) p50 
(dLook (nat_lit 4) [] [] (lkFieldAddr (nat_lit 0) g8) p51 
(dLook (nat_lit 5) [] [] (lkLoad1 g51) p52 
(dLook (nat_lit 6) [] [] (lkLoadN (nat_lit 2) g8) p53 
(dTurn (nat_lit 7) [(nat_lit 3), (nat_lit 5)] [] true (xCall q30 [g53]) p54 
(dTurn (nat_lit 8) [] [(nat_lit 7)] true (xCall q29 [g50, g52, g54]) p55 
(dLook (nat_lit 9) [] [(nat_lit 7), (nat_lit 8)] (lkMove g55) p46 
(dLook (nat_lit 10) [] [(nat_lit 7), (nat_lit 8)] (lkExtract (nat_lit 0) g46) p56 
(dLook (nat_lit 11) [] [(nat_lit 7), (nat_lit 8)] (lkExtract (nat_lit 1) g46) p57 
(dLook (nat_lit 12) [] [(nat_lit 7), (nat_lit 8)] (lkMove g56) p9 
(dLook (nat_lit 13) [] [(nat_lit 7), (nat_lit 8)] (lkMove g57) p10 (dEnd [(nat_lit 47), (nat_lit 48), (nat_lit 49), (nat_lit 50), (nat_lit 51), (nat_lit 52), (nat_lit 53), (nat_lit 54), (nat_lit 55), (nat_lit 46), (nat_lit 56), (nat_lit 57), (nat_lit 9), (nat_lit 10)])))))))))))))))) (kSeq (kSeq (oSet (xMove g10) p58 
(oSet (xLook (lkEq true .int g58 q16)) p59 
oEnd)) (kCond g59 (kSeq (oSet (xMove g0) p60 
(oSet (xNil g60) p61 
(oSet (xLook (lkFieldAddr (nat_lit 39) g61)) p62 
(oDo (xTurn (tnStore (nat_lit 1) g62 q2)) 
oEnd)))) (kSeq (oSet (xMove g10) p63 
(oSet (xMove q5) p4 
(oSet (xMove g63) p5 
oEnd))) kRet)) kSkip)) (kSeq (oSet (xMove g9) p65 
(oSet (xCall q31 [g65]) p66 
(oSet (xMove g66) p64 
(oSet (xLook (lkExtract (nat_lit 0) g64)) p67 
(oSet (xLook (lkExtract (nat_lit 1) g64)) p68 
(oSet (xLook (lkExtract (nat_lit 2) g64)) p69 
(oSet (xMove g67) p11 
(oSet (xMove g68) p12 
(oSet (xMove g69) p10 
oEnd))))))))) (kSeq (kSeq (kDraw 
(dLook (nat_lit 0) [] [] (lkMove g10) p70 
(dLook (nat_lit 1) [] [] (lkEq true .int g70 q16) p71 
(dLook (nat_lit 2) [] [] (lkMove g71) p72 
(dIf [] (wantF g72) p73 (dLook (nat_lit 3) [] [] (lkMove g11) p73 k28d10) k28d10))))) (kCond g88 (kSeq (oSet (xMove q5) p4 
(oSet (xMove q28) p5 
oEnd)) kRet) kSkip)) (kSeq (oSet (xMove g12) p89 
(oSet (xMove g89) p4 
(oSet (xMove q16) p5 
oEnd))) kRet))))))))))⟩
def q39 : OpdF := kC (.int .i64 (.ofNat (nat_lit 65536)))
def q40 : OpdF := kC (.int .i64 (.ofNat (nat_lit 3)))
noncomputable def k30d0 : KD := 
(dLook (nat_lit 8) [] [(nat_lit 6)] (lkPick g34 q2 g40) p41 (dEnd [(nat_lit 33), (nat_lit 34), (nat_lit 35), (nat_lit 36), (nat_lit 37), (nat_lit 38), (nat_lit 39), (nat_lit 40), (nat_lit 41)]))
noncomputable def k30d1 : KD := 
(dIf [(nat_lit 6)] (wantF g34) p40 (dLook (nat_lit 7) [] [(nat_lit 6)] (lkBin .geq g39 q16) p40 k30d0) k30d0)
noncomputable def k30d2 : KD := 
(dIf [] (wantF g34) p39 (dTurn (nat_lit 6) [] [] true (xCall q35 [g37, g38]) p39 k30d1) k30d1)
noncomputable def k30d3 : KD := 
(dIf [] (wantF g34) p38 (dLook (nat_lit 5) [] [] (lkLoadN (nat_lit 32) g7) p38 k30d2) k30d2)
noncomputable def k30d4 : KD := 
(dIf [] (wantF g34) p37 (dLook (nat_lit 4) [] [] (lkFieldAddr (nat_lit 0) g36) p37 k30d3) k30d3)
noncomputable def k30d5 : KD := 
(dIf [] (wantF g34) p36 (dTurn (nat_lit 3) [] [] false (xNil g35) p36 k30d4) k30d4)
def q41 : OpdF := kC (.func (.func (nat_lit 82)) ⟨[]⟩ ⟨[]⟩)
def q42 : OpdF := kC (.func (.func (nat_lit 81)) ⟨[]⟩ ⟨[]⟩)
def q43 : OpdF := kC (.int .i64 (.ofNat (nat_lit 1500)))
noncomputable def k30d6 : KD := 
(dLook (nat_lit 16) [] [] (lkPick g59 q2 g72) p73 (dEnd [(nat_lit 57), (nat_lit 58), (nat_lit 59), (nat_lit 60), (nat_lit 61), (nat_lit 62), (nat_lit 63), (nat_lit 64), (nat_lit 65), (nat_lit 66), (nat_lit 67), (nat_lit 68), (nat_lit 69), (nat_lit 70), (nat_lit 71), (nat_lit 72), (nat_lit 73)]))
noncomputable def k30d7 : KD := 
(dIf [] (wantF g59) p72 (dLook (nat_lit 15) [] [] (lkBin .geq g71 q43) p72 k30d6) k30d6)
noncomputable def k30d8 : KD := 
(dIf [] (wantF g59) p71 (dLook (nat_lit 14) [] [] (lkBin .add g64 g70) p71 k30d7) k30d7)
noncomputable def k30d9 : KD := 
(dIf [] (wantF g59) p70 (dLook (nat_lit 13) [] [] (lkLen .sl g69) p70 k30d8) k30d8)
noncomputable def k30d10 : KD := 
(dIf [] (wantF g59) p69 (dLook (nat_lit 12) [] [] (lkLoad1 g68) p69 k30d9) k30d9)
noncomputable def k30d11 : KD := 
(dIf [] (wantF g59) p68 (dLook (nat_lit 11) [] [] (lkFieldAddr (nat_lit 0) g67) p68 k30d10) k30d10)
noncomputable def k30d12 : KD := 
(dIf [] (wantF g59) p67 (dLook (nat_lit 10) [] [] (lkFieldAddr (nat_lit 0) g66) p67 k30d11) k30d11)
noncomputable def k30d13 : KD := 
(dIf [] (wantF g59) p66 (dTurn (nat_lit 9) [] [] false (xNil g65) p66 k30d12) k30d12)
noncomputable def k30d14 : KD := 
(dIf [] (wantF g59) p65 (dLook (nat_lit 8) [] [] (lkMove g0) p65 k30d13) k30d13)
noncomputable def k30d15 : KD := 
(dIf [] (wantF g59) p64 (dLook (nat_lit 7) [] [] (lkLen .map g63) p64 k30d14) k30d14)
noncomputable def k30d16 : KD := 
(dIf [] (wantF g59) p63 (dLook (nat_lit 6) [] [] (lkLoad1 g62) p63 k30d15) k30d15)
noncomputable def k30d17 : KD := 
(dIf [] (wantF g59) p62 (dLook (nat_lit 5) [] [] (lkFieldAddr (nat_lit 38) g61) p62 k30d16) k30d16)
noncomputable def k30d18 : KD := 
(dIf [] (wantF g59) p61 (dTurn (nat_lit 4) [] [] false (xNil g60) p61 k30d17) k30d17)
def q44 : List Value := [(.int .i64 (.ofNat (nat_lit 0))), (.int .i64 (.ofNat (nat_lit 0))), (.int .u8 (.ofNat (nat_lit 0))), (.int .u8 (.ofNat (nat_lit 0))), (.int .u8 (.ofNat (nat_lit 0))), (.int .u8 (.ofNat (nat_lit 0))), (.int .u8 (.ofNat (nat_lit 0))), (.int .u8 (.ofNat (nat_lit 0))), (.int .u8 (.ofNat (nat_lit 0))), (.int .u8 (.ofNat (nat_lit 0))), (.int .u8 (.ofNat (nat_lit 0))), (.int .u8 (.ofNat (nat_lit 0))), (.int .u8 (.ofNat (nat_lit 0))), (.int .u8 (.ofNat (nat_lit 0))), (.int .u8 (.ofNat (nat_lit 0))), (.int .u8 (.ofNat (nat_lit 0))), (.int .u8 (.ofNat (nat_lit 0))), (.int .u8 (.ofNat (nat_lit 0))), (.int .u8 (.ofNat (nat_lit 0))), (.int .u8 (.ofNat (nat_lit 0))), (.int .u8 (.ofNat (nat_lit 0))), (.int .u8 (.ofNat (nat_lit 0))), (.int .u8 (.ofNat (nat_lit 0))), (.int .u8 (.ofNat (nat_lit 0))), (.int .u8 (.ofNat (nat_lit 0))), (.int .u8 (.ofNat (nat_lit 0))), (.int .u8 (.ofNat (nat_lit 0))), (.int .u8 (.ofNat (nat_lit 0))), (.int .u8 (.ofNat (nat_lit 0))), (.int .u8 (.ofNat (nat_lit 0))), (.int .u8 (.ofNat (nat_lit 0))), (.int .u8 (.ofNat (nat_lit 0))), (.int .u8 (.ofNat (nat_lit 0))), (.int .u8 (.ofNat (nat_lit 0))), (.slice none (nat_lit 0) (nat_lit 0))]
def q45 : OpdF := kC (.func (.func (nat_lit 100)) ⟨[]⟩ ⟨[]⟩)
noncomputable def k30 : KFun := ⟨[rCellN (nat_lit 4) g4 (nat_lit 32), rTmp (nat_lit 5) g5], (kSeq (oSet (xTurn (tnAlloc q6)) p4 
(oSet (xMove q16) p5 
oEnd)) (kSeq (kSeq (oSet (xMove g0) p12 
(oSet (xCall q34 [g12]) p13 
(oSet (xMove g13) p6 
oEnd))) (kSeq (oSet (xMove g6) p14 
(oSet (xLook (lkEq true .int g14 q16)) p15 
oEnd)) (kCond g15 (kSeq (oSet (xLook (lkBuild q6 [])) p16 
(oSet (xMove g6) p17 
(oDo (xTurn (tnStore (nat_lit 32) g4 g16)) 
(oSet (xMove g17) p5 
oEnd)))) kRet) kSkip))) (kSeq (kSeq (oSet (xMove g1) p18 
(oSet (xLook (lkLen .sl g18)) p19 
(oSet (xLook (lkBin .gtr g19 q39)) p20 
oEnd))) (kCond g20 (kSeq (oSet (xLook (lkBuild q6 [])) p21 
(oDo (xTurn (tnStore (nat_lit 32) g4 g21)) 
(oSet (xMove q40) p5 
oEnd))) kRet) kSkip)) (kSeq (oSet (xMove g1) p22 
(oSet (xCall q38 [g22]) p23 
(oSet (xTurn (tnAlloc q6)) p7 
(oDo (xTurn (tnStore (nat_lit 32) g7 g23)) 
oEnd)))) (kSeq (kSeq (kDraw 
(dLook (nat_lit 0) [] [] (lkMove g0) p25 
(dTurn (nat_lit 1) [] [] false (xNil g25) p26 
(dLook (nat_lit 2) [] [] (lkFieldAddr (nat_lit 38) g26) p27 
(dLook (nat_lit 3) [] [] (lkLoad1 g27) p28 
(dLook (nat_lit 4) [] [] (lkLoadN (nat_lit 32) g7) p29 
(dLook (nat_lit 5) [] [] (lkLookup (.many (nat_lit 32) .u8) (.agg ⟨[(.int .i64 (.ofNat (nat_lit 0))), (.int .i64 (.ofNat (nat_lit 0)))]⟩) true g28 g29) p30 
(dLook (nat_lit 6) [] [] (lkMove g30) p24 
(dLook (nat_lit 7) [] [] (lkExtract (nat_lit 0) g24) p31 
(dLook (nat_lit 8) [] [] (lkExtract (nat_lit 1) g24) p32 
(dTurn (nat_lit 9) [] [] false (xTurn (tnAlloc q26)) p8 
(dTurn (nat_lit 10) [] [] true (xTurn (tnStore (nat_lit 2) g8 g31)) noDst 
(dLook (nat_lit 11) [] [(nat_lit 10)] (lkMove g32) p9 (dEnd [(nat_lit 25), (nat_lit 26), (nat_lit 27), (nat_lit 28), (nat_lit 29), (nat_lit 30), (nat_lit 24), (nat_lit 31), (nat_lit 32), (nat_lit 8), (nat_lit 9)])))))))))))))) (kSeq (kDraw 
(dLook (nat_lit 0) [] [] (lkMove g9) p33 
(dLook (nat_lit 1) [] [] (lkMove g33) p34 
(dIf [] (wantF g34) p35 (dLook (nat_lit 2) [] [] (lkMove g0) p35 k30d5) k30d5)))) (kCond g41 (kSeq (kDraw 
(dLook (nat_lit 0) [] [] (lkMove g0) p42 
(dTurn (nat_lit 1) [] [] false (xNil g42) p43 
(dLook (nat_lit 2) [] [] (lkFieldAddr (nat_lit 0) g43) p44 
(dLook (nat_lit 3) [] [] (lkFieldAddr (nat_lit 1) g44) p45 
(dLook (nat_lit 4) [] [] (lkLoad1 g45) p46 
(dLook (nat_lit 5) [] [] (lkLoadN (nat_lit 32) g7) p47 
(dTurn (nat_lit 6) [] [] true (xTurn (tnDelete (.many (nat_lit 32) .u8) g46 g47)) noDst (dEnd [(nat_lit 42), (nat_lit 43), (nat_lit 44), (nat_lit 45), (nat_lit 46), (nat_lit 47)]))))))))) (kSeq (oSet (xLook (lkLoadN (nat_lit 32) g7)) p48 
(oDo (xTurn (tnStore (nat_lit 32) g4 g48)) 
(oSet (xMove q16) p5 
oEnd))) kRet)) kSkip))) (kSeq (oSet (xMove g0) p50 
(oSet (xMove g1) p51 
(oSet (xLook (lkLen .sl g51)) p52 
(oSet (xCall q41 [g52]) p53 
(oSet (xCall q42 [g50, g53]) p54 
(oSet (xMove g54) p49 
(oSet (xLook (lkExtract (nat_lit 0) g49)) p55 
(oSet (xLook (lkExtract (nat_lit 1) g49)) p56 
(oSet (xMove g55) p10 
(oSet (xMove g56) p11 
oEnd)))))))))) (kSeq (kSeq (kDraw 
(dLook (nat_lit 0) [] [] (lkMove g11) p57 
(dLook (nat_lit 1) [] [] (lkEq true .int g57 q16) p58 
(dLook (nat_lit 2) [] [] (lkMove g58) p59 
(dIf [] (wantF g59) p60 (dLook (nat_lit 3) [] [] (lkMove g0) p60 k30d18) k30d18))))) (kCond g73 (kSeq (oSet (xLook (lkBuild q6 [])) p74 
(oDo (xTurn (tnStore (nat_lit 32) g4 g74)) 
(oSet (xMove q20) p5 
oEnd))) kRet) kSkip)) (kSeq (kDraw 
(dLook (nat_lit 0) [] [] (lkMove g0) p75 
(dLook (nat_lit 1) [] [] (lkMove g0) p76 
(dTurn (nat_lit 2) [] [] false (xNil g76) p77 
(dLook (nat_lit 3) [] [] (lkFieldAddr (nat_lit 0) g77) p78 
(dLook (nat_lit 4) [] [] (lkFieldAddr (nat_lit 0) g78) p79 
(dLook (nat_lit 5) [] [] (lkLoad1 g79) p80 
(dLook (nat_lit 6) [] [] (lkMove g10) p81 
(dLook (nat_lit 7) [] [] (lkMove g1) p82 
(dLook (nat_lit 8) [] [] (lkLen .sl g82) p83 
(dLook (nat_lit 9) [] [] (lkBuild q26 [((nat_lit 0), (nat_lit 1), g81), ((nat_lit 1), (nat_lit 1), g83)]) p84 
(dLook (nat_lit 10) [] [] (lkLoadN (nat_lit 32) g7) p85 
(dLook (nat_lit 11) [] [] (lkMove g1) p86 
(dTurn (nat_lit 12) [(nat_lit 5), (nat_lit 8), (nat_lit 10)] [] true (xCall q45 [g86]) p87 
(dLook (nat_lit 13) [] [(nat_lit 12)] (lkBuild q44 [((nat_lit 0), (nat_lit 2), g84), ((nat_lit 2), (nat_lit 32), g85), ((nat_lit 34), (nat_lit 1), g87)]) p88 
(dTurn (nat_lit 14) [] [(nat_lit 12)] false (xTurn (tnBuildSlice q44 [((nat_lit 0), (nat_lit 35), g88)] (nat_lit 1))) p89 
(dTurn (nat_lit 15) [] [(nat_lit 12)] true (xTurn (tnAppend (nat_lit 35) g80 g89)) p90 
(dTurn (nat_lit 16) [] [(nat_lit 12), (nat_lit 15)] false (xNil g75) p91 
(dLook (nat_lit 17) [] [(nat_lit 12), (nat_lit 15)] (lkFieldAddr (nat_lit 0) g91) p92 
(dLook (nat_lit 18) [] [(nat_lit 12), (nat_lit 15)] (lkFieldAddr (nat_lit 0) g92) p93 
(dTurn (nat_lit 19) [] [(nat_lit 12), (nat_lit 15)] true (xTurn (tnStore (nat_lit 1) g93 g90)) noDst (dEnd [(nat_lit 75), (nat_lit 76), (nat_lit 77), (nat_lit 78), (nat_lit 79), (nat_lit 80), (nat_lit 81), (nat_lit 82), (nat_lit 83), (nat_lit 84), (nat_lit 85), (nat_lit 86), (nat_lit 87), (nat_lit 88), (nat_lit 89), (nat_lit 90), (nat_lit 91), (nat_lit 92), (nat_lit 93)])))))))))))))))))))))) (kSeq (oSet (xLook (lkLoadN (nat_lit 32) g7)) p94 
(oDo (xTurn (tnStore (nat_lit 32) g4 g94)) 
(oSet (xMove q16) p5 
oEnd))) kRet)))))))))⟩
def q46 : OpdF := kC (.func (.func (nat_lit 115)) ⟨[]⟩ ⟨[]⟩)
def q47 : OpdF := kC (.func (.func (nat_lit 111)) ⟨[]⟩ ⟨[]⟩)
def q48 : List Value := [(.int .u8 (.ofNat (nat_lit 0))), (.int .u8 (.ofNat (nat_lit 0))), (.int .u8 (.ofNat (nat_lit 0))), (.int .u8 (.ofNat (nat_lit 0))), (.int .u8 (.ofNat (nat_lit 0))), (.int .u8 (.ofNat (nat_lit 0))), (.int .u8 (.ofNat (nat_lit 0))), (.int .u8 (.ofNat (nat_lit 0))), (.int .u8 (.ofNat (nat_lit 0))), (.int .u8 (.ofNat (nat_lit 0))), (.int .u8 (.ofNat (nat_lit 0))), (.int .u8 (.ofNat (nat_lit 0))), (.int .u8 (.ofNat (nat_lit 0))), (.int .u8 (.ofNat (nat_lit 0))), (.int .u8 (.ofNat (nat_lit 0))), (.int .u8 (.ofNat (nat_lit 0))), (.int .u8 (.ofNat (nat_lit 0))), (.int .u8 (.ofNat (nat_lit 0))), (.int .u8 (.ofNat (nat_lit 0))), (.int .u8 (.ofNat (nat_lit 0))), (.int .u8 (.ofNat (nat_lit 0))), (.int .u8 (.ofNat (nat_lit 0))), (.int .u8 (.ofNat (nat_lit 0))), (.int .u8 (.ofNat (nat_lit 0))), (.int .u8 (.ofNat (nat_lit 0))), (.int .u8 (.ofNat (nat_lit 0))), (.int .u8 (.ofNat (nat_lit 0))), (.int .u8 (.ofNat (nat_lit 0))), (.int .u8 (.ofNat (nat_lit 0))), (.int .u8 (.ofNat (nat_lit 0))), (.int .u8 (.ofNat (nat_lit 0))), (.int .u8 (.ofNat (nat_lit 0))), (.slice none (nat_lit 0) (nat_lit 0))]
def q49 : OpdF := kC (.func (.func (nat_lit 30)) ⟨[]⟩ ⟨[]⟩)
noncomputable def k44 : KFun := ⟨[rCellN (nat_lit 4) g4 (nat_lit 32), rTmp (nat_lit 5) g5], (kSeq (oSet (xTurn (tnAlloc q6)) p4 
(oSet (xMove q16) p5 
oEnd)) (kSeq (kSeq (oSet (xMove g0) p13 
(oSet (xCall q46 [g13]) p14 
(oSet (xLook (lkUn .not g14)) p15 
oEnd))) (kCond g15 (kSeq (oSet (xLook (lkBuild q6 [])) p16 
(oDo (xTurn (tnStore (nat_lit 32) g4 g16)) 
(oSet (xMove q11) p5 
oEnd))) kRet) kSkip)) (kSeq (oSet (xMove g1) p18 
(oSet (xCall q47 [g18]) p19 
(oSet (xMove g19) p17 
(oSet (xLook (lkExtract (nat_lit 0) g17)) p20 
(oSet (xLook (lkExtract (nat_lit 1) g17)) p21 
(oSet (xLook (lkExtract (nat_lit 2) g17)) p22 
(oSet (xTurn (tnAlloc q6)) p6 
(oDo (xTurn (tnStore (nat_lit 32) g6 g20)) 
(oSet (xMove g21) p7 
(oSet (xMove g22) p8 
oEnd)))))))))) (kSeq (kSeq (oSet (xMove g8) p23 
(oSet (xLook (lkEq true .int g23 q16)) p24 
oEnd)) (kCond g24 (kSeq (oSet (xLook (lkBuild q6 [])) p25 
(oSet (xMove g8) p26 
(oDo (xTurn (tnStore (nat_lit 32) g4 g25)) 
(oSet (xMove g26) p5 
oEnd)))) kRet) kSkip)) (kSeq (kSeq (oSet (xMove g7) p27 
(oSet (xLook (lkLen .sl g27)) p28 
(oSet (xMove q16) p29 
oEnd))) (kBlock (nat_lit 0) (kLoop (kSeq (oSet (xLook (lkBin .lss g29 g28)) p30 
oEnd) (kSeq (kCond g30 kSkip (kExit (nat_lit 0))) (kSeq (kBlock (nat_lit 1) (kSeq (oSet (xLook (lkIxSl (nat_lit 33) g27 g29)) p31 
(oSet (xLook (lkLoadN (nat_lit 33) g31)) p32 
(oSet (xTurn (tnAlloc q48)) p10 
(oDo (xTurn (tnStore (nat_lit 33) g10 g32)) 
oEnd)))) (kSeq (oSet (xMove g0) p34 
(oSet (xLook (lkFieldAddr (nat_lit 32) g10)) p35 
(oSet (xLook (lkLoad1 g35)) p36 
(oSet (xCall q49 [g34, g36]) p37 
(oSet (xMove g37) p33 
(oSet (xLook (lkExtract (nat_lit 0) g33)) p38 
(oSet (xLook (lkExtract (nat_lit 1) g33)) p39 
(oSet (xTurn (tnAlloc q6)) p11 
(oDo (xTurn (tnStore (nat_lit 32) g11 g38)) 
(oSet (xMove g39) p12 
oEnd)))))))))) (kSeq (oSet (xMove g12) p40 
(oSet (xLook (lkEq true .int g40 q16)) p41 
oEnd)) (kCond g41 (kSeq (oSet (xLook (lkBuild q6 [])) p42 
(oSet (xMove g12) p43 
(oDo (xTurn (tnStore (nat_lit 32) g4 g42)) 
(oSet (xMove g43) p5 
oEnd)))) kRet) kSkip))))) (oSet (xLook (lkBin .add g29 q11)) p44 
(oSet (xMove g44) p29 
oEnd)))))))) (kSeq (oSet (xLook (lkLoadN (nat_lit 32) g6)) p45 
(oDo (xTurn (tnStore (nat_lit 32) g4 g45)) 
(oSet (xMove q16) p5 
oEnd))) kRet))))))⟩
def q50 : OpdF := kC (.string ⟨⟨[]⟩⟩)
def q51 : OpdF := kC (.func (.func (nat_lit 52)) ⟨[]⟩ ⟨[]⟩)
def q52 : OpdF := kC (.func (.func (nat_lit 116)) ⟨[]⟩ ⟨[]⟩)
noncomputable def k45 : KFun := ⟨[rTmp (nat_lit 6) g6, rTmp (nat_lit 7) g7, rTmp (nat_lit 8) g8], (kSeq (oSet (xTurn (tnBox g1)) p4 
(oSet (xMove q50) p6 
(oSet (xMove q0) p7 
(oSet (xMove q16) p8 
oEnd)))) (kSeq (kDraw 
(dLook (nat_lit 0) [] [] (lkMove g0) p12 
(dLook (nat_lit 1) [] [] (lkLoadN (nat_lit 32) g4) p13 
(dLook (nat_lit 2) [] [] (lkMove g2) p14 
(dTurn (nat_lit 3) [(nat_lit 1)] [] true (xCall q52 [g14]) p15 
(dTurn (nat_lit 4) [] [(nat_lit 3)] true (xCall q51 [g12, g13, g15, q11]) p16 
(dLook (nat_lit 5) [] [(nat_lit 3), (nat_lit 4)] (lkMove g16) p11 
(dLook (nat_lit 6) [] [(nat_lit 3), (nat_lit 4)] (lkExtract (nat_lit 0) g11) p17 
(dLook (nat_lit 7) [] [(nat_lit 3), (nat_lit 4)] (lkExtract (nat_lit 1) g11) p18 
(dLook (nat_lit 8) [] [(nat_lit 3), (nat_lit 4)] (lkMove g17) p9 
(dLook (nat_lit 9) [] [(nat_lit 3), (nat_lit 4)] (lkMove g18) p10 (dEnd [(nat_lit 12), (nat_lit 13), (nat_lit 14), (nat_lit 15), (nat_lit 16), (nat_lit 11), (nat_lit 17), (nat_lit 18), (nat_lit 9), (nat_lit 10)])))))))))))) (kSeq (kSeq (oSet (xMove g10) p19 
(oSet (xLook (lkEq true .int g19 q16)) p20 
(oSet (xMove g20) p21 
(oSetIf (wantF g21) (xMove g9) p22 
(oSetIf (wantF g21) (xLook (lkLen .sl g22)) p23 
(oSetIf (wantF g21) (xLook (lkEq false .int g23 q16)) p24 
(oSet (xLook (lkPick g21 q2 g24)) p25 
oEnd))))))) (kCond g25 (kSeq (oSet (xMove g10) p26 
(oSet (xMove q50) p6 
(oSet (xMove q0) p7 
(oSet (xMove g26) p8 
oEnd)))) kRet) kSkip)) (kSeq (oSet (xMove g9) p27 
(oSet (xLook (lkIxSl (nat_lit 2) g27 q16)) p28 
(oSet (xLook (lkFieldAddr (nat_lit 1) g28)) p29 
(oSet (xLook (lkLoad1 g29)) p30 
(oSet (xMove g30) p6 
(oSet (xMove q2) p7 
(oSet (xMove q16) p8 
oEnd))))))) kRet))))⟩
def q53 : List Value := [(.string ⟨⟨[]⟩⟩), (.string ⟨⟨[]⟩⟩)]
def q54 : OpdF := kC (.int .i64 (.ofNat (nat_lit 4611686018427387904)))
noncomputable def k46 : KFun := ⟨[rTmp (nat_lit 4) g4, rTmp (nat_lit 5) g5], (kSeq (oSet (xTurn (tnBox g1)) p3 
(oSet (xMove q5) p4 
(oSet (xMove q16) p5 
oEnd))) (kSeq (oSet (xMove g0) p6 
(oSet (xLook (lkLoadN (nat_lit 32) g3)) p7 
(oSet (xLook (lkBuild q53 [])) p8 
(oSet (xCall q51 [g6, g7, g8, q54]) p9 
(oSet (xLook (lkExtract (nat_lit 0) g9)) p10 
(oSet (xLook (lkExtract (nat_lit 1) g9)) p11 
(oSet (xMove g10) p4 
(oSet (xMove g11) p5 
oEnd)))))))) kRet))⟩
def q55 : List Value := [(.map none)]
def q56 : List Value := [(.slice none (nat_lit 0) (nat_lit 0))]
def q57 : List Value := [(.pointer none), .nilFunc, (.int .i64 (.ofNat (nat_lit 0)))]
def q58 : OpdF := kC (.func (.func (nat_lit 118)) ⟨[]⟩ ⟨[]⟩)
def q59 : CCode := .skip
def q60 : CCode := (.block (nat_lit 1) .skip)
noncomputable def k47 : KFun := ⟨[rTmp (nat_lit 4) g4, rTmp (nat_lit 5) g5], (kSeq (oSet (xTurn (tnBox g1)) p3 
(oSet (xMove q5) p4 
(oSet (xMove q16) p5 
oEnd))) (kSeq (kSeq (oSet (xMove g0) p9 
(oSet (xCall q46 [g9]) p10 
(oSet (xLook (lkUn .not g10)) p11 
oEnd))) (kCond g11 (kSeq (oSet (xMove q5) p4 
(oSet (xMove q11) p5 
oEnd)) kRet) kSkip)) (kSeq (oSet (xTurn (tnMkMap (.many (nat_lit 32) .u8))) p12 
(oSet (xTurn (tnAlloc q55)) p6 
(oDo (xTurn (tnStore (nat_lit 1) g6 g12)) 
oEnd))) (kSeq (oSet (xTurn (tnAlloc q56)) p7 
oEnd) (kSeq (oSet (xMove g0) p13 
(oSet (xLook (lkMkFunc (.func (nat_lit 117)) [] [g6, g7])) p14 
(oSet (xLook (lkBuild q57 [((nat_lit 0), (nat_lit 1), g13), ((nat_lit 1), (nat_lit 1), g14)])) p15 
(oSet (xTurn (tnBox g15)) p16 
(oSet (xMove g16) p8 
oEnd))))) (kSeq (kSeq (oSet (xMove g8) p17 
(oSet (xLook (lkLoadN (nat_lit 32) g3)) p18 
(oSet (xLook (lkBuild q53 [])) p19 
(oSet (xCall q58 [g17, g18, g19]) p20 
oEnd)))) (kBlock (nat_lit 0) (kRange g20 [(nat_lit 21)] q59 q60))) (kSeq (kSeq (oSet (xMove g8) p22 
(oSet (xNil g22) p23 
(oSet (xLook (lkFieldAddr (nat_lit 2) g23)) p24 
(oSet (xLook (lkLoad1 g24)) p25 
(oSet (xLook (lkEq true .int g25 q16)) p26 
oEnd))))) (kCond g26 (kSeq (kDraw 
(dLook (nat_lit 0) [] [] (lkMove g8) p27 
(dTurn (nat_lit 1) [] [] false (xNil g27) p28 
(dLook (nat_lit 2) [] [] (lkFieldAddr (nat_lit 2) g28) p29 
(dLook (nat_lit 3) [] [] (lkLoad1 g29) p30 
(dLook (nat_lit 4) [] [] (lkMove q5) p4 
(dLook (nat_lit 5) [] [] (lkMove g30) p5 (dEnd [(nat_lit 27), (nat_lit 28), (nat_lit 29), (nat_lit 30), (nat_lit 4), (nat_lit 5)])))))))) kRet) kSkip)) (kSeq (oSet (xLook (lkLoad1 g7)) p31 
(oSet (xMove g31) p4 
(oSet (xMove q16) p5 
oEnd))) kRet))))))))⟩
def q61 : OpdF := kC (.func (.func (nat_lit 119)) ⟨[]⟩ ⟨[]⟩)
noncomputable def k48 : KFun := ⟨[rCellN (nat_lit 6) g6 (nat_lit 32), rTmp (nat_lit 7) g7], (kSeq (oSet (xTurn (tnBox g1)) p4 
(oSet (xTurn (tnAlloc q6)) p6 
(oSet (xMove q16) p7 
oEnd))) (kSeq (oSet (xMove g0) p12 
(oSet (xLook (lkLoadN (nat_lit 32) g4)) p13 
(oSet (xCall q8 [g12, g13]) p14 
(oSet (xMove g14) p11 
(oSet (xLook (lkExtract (nat_lit 0) g11)) p15 
(oSet (xLook (lkExtract (nat_lit 1) g11)) p16 
(oSet (xMove g15) p8 
(oSet (xMove g16) p9 
oEnd)))))))) (kSeq (kSeq (oSet (xMove g9) p17 
(oSet (xLook (lkEq true .int g17 q16)) p18 
oEnd)) (kCond g18 (kSeq (oSet (xLook (lkBuild q6 [])) p19 
(oSet (xMove g9) p20 
(oDo (xTurn (tnStore (nat_lit 32) g6 g19)) 
(oSet (xMove g20) p7 
oEnd)))) kRet) kSkip)) (kSeq (oSet (xMove g8) p22 
(oSet (xMove g2) p23 
(oSet (xCall q61 [g22, g23]) p24 
(oSet (xMove g24) p21 
(oSet (xLook (lkExtract (nat_lit 0) g21)) p25 
(oSet (xLook (lkExtract (nat_lit 1) g21)) p26 
(oSet (xMove g25) p10 
(oSet (xMove g26) p9 
oEnd)))))))) (kSeq (kSeq (oSet (xMove g9) p27 
(oSet (xLook (lkEq true .int g27 q16)) p28 
oEnd)) (kCond g28 (kSeq (oSet (xLook (lkBuild q6 [])) p29 
(oSet (xMove g9) p30 
(oDo (xTurn (tnStore (nat_lit 32) g6 g29)) 
(oSet (xMove g30) p7 
oEnd)))) kRet) kSkip)) (kSeq (oSet (xMove g0) p31 
(oSet (xMove g10) p32 
(oSet (xCall q3 [g31, g32]) p33 
(oSet (xLook (lkExtract (nat_lit 0) g33)) p34 
(oSet (xLook (lkExtract (nat_lit 1) g33)) p35 
(oDo (xTurn (tnStore (nat_lit 32) g6 g34)) 
(oSet (xMove g35) p7 
oEnd))))))) kRet))))))⟩
def q62 : OpdF := kC (.func (.func (nat_lit 50)) ⟨[]⟩ ⟨[]⟩)
def q63 : OpdF := kC (.func (.func (nat_lit 51)) ⟨[]⟩ ⟨[]⟩)
def q64 : OpdF := kC (.string ⟨⟨[97]⟩⟩)
def q65 : OpdF := kC (.string ⟨⟨[49]⟩⟩)
def q66 : OpdF := kC (.func (.func (nat_lit 53)) ⟨[]⟩ ⟨[]⟩)
noncomputable def k49 : KFun := ⟨[rTmp (nat_lit 0) g0], (kSeq (oSet (xMove q0) p0 
oEnd) (kSeq (oSet (xCall q62 []) p9 
(oSet (xMove g9) p1 
oEnd)) (kSeq (kSeq (oSet (xMove g1) p10 
(oSet (xLook (lkEq false .ptr g10 q4)) p11 
oEnd)) (kCond g11 (kSeq (oSet (xMove q0) p0 
oEnd) kRet) kSkip)) (kSeq (oSet (xMove g1) p13 
(oSet (xCall q63 []) p14 
(oSet (xCall q3 [g13, g14]) p15 
(oSet (xMove g15) p12 
(oSet (xLook (lkExtract (nat_lit 0) g12)) p16 
(oSet (xLook (lkExtract (nat_lit 1) g12)) p17 
(oSet (xTurn (tnAlloc q6)) p2 
(oDo (xTurn (tnStore (nat_lit 32) g2 g16)) 
(oSet (xMove g17) p3 
oEnd))))))))) (kSeq (oSet (xMove g1) p19 
(oSet (xLook (lkLoadN (nat_lit 32) g2)) p20 
(oSet (xCall q7 [g19, g20, q64]) p21 
(oSet (xMove g21) p18 
(oSet (xLook (lkExtract (nat_lit 0) g18)) p22 
(oSet (xLook (lkExtract (nat_lit 1) g18)) p23 
(oSet (xLook (lkExtract (nat_lit 2) g18)) p24 
(oSet (xMove g22) p4 
(oSet (xMove g23) p5 
(oSet (xMove g24) p6 
oEnd)))))))))) (kSeq (oSet (xMove g1) p26 
(oSet (xLook (lkLoadN (nat_lit 32) g2)) p27 
(oSet (xCall q8 [g26, g27]) p28 
(oSet (xMove g28) p25 
(oSet (xLook (lkExtract (nat_lit 0) g25)) p29 
(oSet (xLook (lkExtract (nat_lit 1) g25)) p30 
(oSet (xMove g29) p7 
(oSet (xMove g30) p8 
oEnd)))))))) (kSeq (oSet (xMove g3) p31 
(oSet (xLook (lkEq false .int g31 q16)) p32 
(oSet (xMove g32) p33 
(oSetIf (wantT g33) (xMove g6) p34 
(oSetIf (wantT g33) (xLook (lkEq false .int g34 q16)) p35 
(oSet (xLook (lkPick g33 g35 q0)) p36 
(oSet (xMove g36) p37 
(oSetIf (wantT g37) (xMove g8) p38 
(oSetIf (wantT g37) (xLook (lkEq false .int g38 q16)) p39 
(oSet (xLook (lkPick g37 g39 q0)) p40 
(oSet (xMove g40) p41 
(oSetIf (wantT g41) (xMove g4) p42 
(oSetIf (wantT g41) (xLook (lkEq false .str g42 q65)) p43 
(oSet (xLook (lkPick g41 g43 q0)) p44 
(oSet (xMove g44) p45 
(oSetIf (wantT g45) (xMove g5) p46 
(oSet (xLook (lkPick g45 g46 q0)) p47 
(oSet (xMove g47) p48 
(oSetIf (wantT g48) (xMove g7) p49 
(oSetIf (wantT g48) (xCall q63 []) p50 
(oSetIf (wantT g48) (xCall q66 [g49, g50]) p51 
(oSet (xLook (lkPick g48 g51 q0)) p52 
(oSet (xMove g52) p0 
oEnd))))))))))))))))))))))) kRet)))))))⟩
def q67 : OpdF := kC (.func (.func (nat_lit 61)) ⟨[]⟩ ⟨[]⟩)
def q68 : OpdF := kC (.int .i64 (.ofNat (nat_lit 3000)))
def q69 : OpdF := kC (.func (.func (nat_lit 23)) ⟨[]⟩ ⟨[]⟩)
noncomputable def k50 : KFun := ⟨[rTmp (nat_lit 0) g0], (kSeq (oSet (xMove q4) p0 
oEnd) (kSeq (oSet (xCall q67 [q68]) p6 
(oSet (xMove g6) p5 
(oSet (xLook (lkExtract (nat_lit 0) g5)) p7 
(oSet (xLook (lkExtract (nat_lit 1) g5)) p8 
(oSet (xMove g7) p1 
(oSet (xMove g8) p2 
oEnd)))))) (kSeq (kSeq (oSet (xMove g2) p9 
(oSet (xLook (lkEq true .int g9 q16)) p10 
oEnd)) (kCond g10 (kSeq (oSet (xMove q4) p0 
oEnd) kRet) kSkip)) (kSeq (oSet (xMove g1) p12 
(oSet (xCall q69 [g12]) p13 
(oSet (xMove g13) p11 
(oSet (xLook (lkExtract (nat_lit 0) g11)) p14 
(oSet (xLook (lkExtract (nat_lit 1) g11)) p15 
(oSet (xMove g14) p3 
(oSet (xMove g15) p4 
oEnd))))))) (kSeq (kSeq (oSet (xMove g4) p16 
(oSet (xLook (lkEq true .int g16 q16)) p17 
oEnd)) (kCond g17 (kSeq (oSet (xMove q4) p0 
oEnd) kRet) kSkip)) (kSeq (oSet (xMove g3) p18 
(oSet (xMove g18) p0 
oEnd)) kRet))))))⟩
def q70 : OpdF := kC (.string ⟨⟨[98]⟩⟩)
def q71 : OpdF := kC (.string ⟨⟨[50]⟩⟩)
def q72 : List Value := [(.string ⟨⟨[]⟩⟩), (.string ⟨⟨[]⟩⟩), (.string ⟨⟨[]⟩⟩), (.string ⟨⟨[]⟩⟩)]
noncomputable def k51 : KFun := ⟨[rTmp (nat_lit 0) g0], (kSeq (oSet (xMove q5) p0 
oEnd) (kSeq (oSet (xLook (lkBuild q53 [((nat_lit 0), (nat_lit 1), q64), ((nat_lit 1), (nat_lit 1), q65)])) p1 
(oSet (xLook (lkBuild q53 [((nat_lit 0), (nat_lit 1), q70), ((nat_lit 1), (nat_lit 1), q71)])) p2 
(oSet (xTurn (tnBuildSlice q72 [((nat_lit 0), (nat_lit 2), g1), ((nat_lit 2), (nat_lit 2), g2)] (nat_lit 2))) p3 
(oSet (xMove g3) p0 
oEnd)))) kRet))⟩
def q73 : OpdF := kC (.func (.func (nat_lit 120)) ⟨[]⟩ ⟨[]⟩)
def q74 : CCode := (.region false [⟨none, (some (nat_lit 12)), (.alloc [(.string ⟨⟨[]⟩⟩), (.string ⟨⟨[]⟩⟩)]), (nat_lit 0), [], []⟩,
⟨none, none, (.store (nat_lit 2) (.tmp (nat_lit 12)) (.tmp (nat_lit 25))), (nat_lit 1), [], []⟩])
def q75 : CCode := (.block (nat_lit 1) (.seq (.region false [⟨none, (some (nat_lit 26)), (.load1 (.tmp (nat_lit 11))), (nat_lit 0), [], []⟩,
⟨none, (some (nat_lit 27)), (.loadN (nat_lit 2) (.tmp (nat_lit 12))), (nat_lit 1), [], []⟩,
⟨none, (some (nat_lit 28)), (.buildSlice [(.string ⟨⟨[]⟩⟩), (.string ⟨⟨[]⟩⟩)] [⟨(nat_lit 0), (nat_lit 2), (.tmp (nat_lit 27))⟩] (nat_lit 1)), (nat_lit 2), [], []⟩,
⟨none, (some (nat_lit 29)), (.append (nat_lit 2) (.tmp (nat_lit 26)) (.tmp (nat_lit 28))), (nat_lit 3), [], []⟩,
⟨none, none, (.store (nat_lit 1) (.tmp (nat_lit 11)) (.tmp (nat_lit 29))), (nat_lit 4), [], []⟩]) (.seq (.region false [⟨none, (some (nat_lit 30)), (.load1 (.tmp (nat_lit 11))), (nat_lit 0), [], []⟩,
⟨none, (some (nat_lit 31)), (.len .sl (.tmp (nat_lit 30))), (nat_lit 1), [], []⟩,
⟨none, (some (nat_lit 32)), (.load1 (.tmp (nat_lit 7))), (nat_lit 2), [], []⟩,
⟨none, (some (nat_lit 33)), (.eq false .int (.tmp (nat_lit 31)) (.tmp (nat_lit 32))), (nat_lit 3), [], []⟩]) (.cond (.tmp (nat_lit 33)) (.exit (nat_lit 0)) .skip))))
noncomputable def k52 : KFun := ⟨[rTmp (nat_lit 8) g8, rTmp (nat_lit 9) g9], (kSeq (oSet (xTurn (tnBox g1)) p5 
(oSet (xTurn (tnBox g2)) p6 
(oSet (xTurn (tnBox g3)) p7 
(oSet (xMove q5) p8 
(oSet (xMove q16) p9 
oEnd))))) (kSeq (kSeq (oSet (xMove g0) p13 
(oSet (xCall q46 [g13]) p14 
(oSet (xLook (lkUn .not g14)) p15 
oEnd))) (kCond g15 (kSeq (oSet (xMove q5) p8 
(oSet (xMove q11) p9 
oEnd)) kRet) kSkip)) (kSeq (kSeq (oSet (xLook (lkLoad1 g7)) p16 
(oSet (xLook (lkBin .lss g16 q11)) p17 
oEnd)) (kCond g17 (kSeq (oSet (xMove q5) p8 
(oSet (xMove q16) p9 
oEnd)) kRet) kSkip)) (kSeq (oSet (xMove g0) p18 
(oSet (xLook (lkBuild q57 [((nat_lit 0), (nat_lit 1), g18), ((nat_lit 1), (nat_lit 1), q73)])) p19 
(oSet (xTurn (tnBox g19)) p20 
(oSet (xMove g20) p10 
oEnd)))) (kSeq (oSet (xTurn (tnAlloc q56)) p11 
oEnd) (kSeq (kSeq (oSet (xMove g10) p21 
(oSet (xLook (lkLoadN (nat_lit 32) g5)) p22 
(oSet (xLook (lkLoadN (nat_lit 2) g6)) p23 
(oSet (xCall q58 [g21, g22, g23]) p24 
oEnd)))) (kBlock (nat_lit 0) (kRange g24 [(nat_lit 25)] q74 q75))) (kSeq (kSeq (oSet (xMove g10) p34 
(oSet (xNil g34) p35 
(oSet (xLook (lkFieldAddr (nat_lit 2) g35)) p36 
(oSet (xLook (lkLoad1 g36)) p37 
(oSet (xLook (lkEq true .int g37 q16)) p38 
oEnd))))) (kCond g38 (kSeq (kDraw 
(dLook (nat_lit 0) [] [] (lkMove g10) p39 
(dTurn (nat_lit 1) [] [] false (xNil g39) p40 
(dLook (nat_lit 2) [] [] (lkFieldAddr (nat_lit 2) g40) p41 
(dLook (nat_lit 3) [] [] (lkLoad1 g41) p42 
(dLook (nat_lit 4) [] [] (lkMove q5) p8 
(dLook (nat_lit 5) [] [] (lkMove g42) p9 (dEnd [(nat_lit 39), (nat_lit 40), (nat_lit 41), (nat_lit 42), (nat_lit 8), (nat_lit 9)])))))))) kRet) kSkip)) (kSeq (oSet (xLook (lkLoad1 g11)) p43 
(oSet (xMove g43) p8 
(oSet (xMove q16) p9 
oEnd))) kRet))))))))⟩
noncomputable def k53 : KFun := ⟨[rTmp (nat_lit 4) g4], (kSeq (oSet (xMove q0) p4 
oEnd) (kSeq (kSeq (oSet (xMove g0) p6 
(oSet (xLook (lkLen .sl g6)) p7 
(oSet (xMove g1) p8 
(oSet (xLook (lkLen .sl g8)) p9 
(oSet (xLook (lkEq true .int g7 g9)) p10 
oEnd))))) (kCond g10 (kSeq (oSet (xMove q0) p4 
oEnd) kRet) kSkip)) (kSeq (kSeq (oSet (xMove q16) p5 
oEnd) (kBlock (nat_lit 0) (kLoop (kSeq (kSeq (oSet (xMove g5) p11 
(oSet (xMove g0) p12 
(oSet (xLook (lkLen .sl g12)) p13 
(oSet (xLook (lkBin .lss g11 g13)) p14 
oEnd)))) (kCond g14 kSkip (kExit (nat_lit 0)))) (kSeq (kBlock (nat_lit 1) (kSeq (kDraw 
(dLook (nat_lit 0) [] [] (lkMove g0) p17 
(dLook (nat_lit 1) [] [] (lkMove g5) p18 
(dLook (nat_lit 2) [] [] (lkIxSl (nat_lit 2) g17 g18) p19 
(dLook (nat_lit 3) [] [] (lkLoadN (nat_lit 2) g19) p20 
(dLook (nat_lit 4) [] [] (lkMove g1) p21 
(dLook (nat_lit 5) [] [] (lkMove g5) p22 
(dLook (nat_lit 6) [] [] (lkIxSl (nat_lit 2) g21 g22) p23 
(dLook (nat_lit 7) [] [] (lkLoadN (nat_lit 2) g23) p24 
(dLook (nat_lit 8) [] [] (lkEq true (.flat [.str, .str]) g20 g24) p25 (dEnd [(nat_lit 17), (nat_lit 18), (nat_lit 19), (nat_lit 20), (nat_lit 21), (nat_lit 22), (nat_lit 23), (nat_lit 24), (nat_lit 25)]))))))))))) (kCond g25 (kSeq (oSet (xMove q0) p4 
oEnd) kRet) kSkip))) (oSet (xMove g5) p15 
(oSet (xLook (lkBin .add g15 q11)) p16 
(oSet (xMove g16) p5 
oEnd)))))))) (kSeq (oSet (xMove q2) p4 
oEnd) kRet))))⟩
def q76 : OpdF := kC (.int .i64 (.ofNat (nat_lit 5)))
def q77 : List Value := [(.int .i64 (.ofNat (nat_lit 0))), (.int .i64 (.ofNat (nat_lit 0))), (.bool false)]
def q78 : OpdF := kC (.int .i64 (.negSucc (nat_lit 0)))
def q79 : List Value := [(.int .i64 (.ofNat (nat_lit 0))), (.int .i64 (.ofNat (nat_lit 0))), (.bool false), (.bool false), (.int .i64 (.ofNat (nat_lit 0))), (.map none), (.slice none (nat_lit 0) (nat_lit 0))]
noncomputable def k61 : KFun := ⟨[rTmp (nat_lit 2) g2, rTmp (nat_lit 3) g3], (kSeq (oSet (xMove q4) p2 
(oSet (xMove q16) p3 
oEnd)) (kSeq (kSeq (oSet (xMove g0) p4 
(oSet (xLook (lkBin .lss g4 q16)) p5 
(oSet (xMove g5) p6 
(oSetIf (wantF g6) (xMove g0) p7 
(oSetIf (wantF g6) (xLook (lkBin .gtr g7 q39)) p8 
(oSet (xLook (lkPick g6 q2 g8)) p9 
oEnd)))))) (kCond g9 (kSeq (oSet (xMove q4) p2 
(oSet (xMove q76) p3 
oEnd)) kRet) kSkip)) (kSeq (oSet (xLook (lkBuild q77 [((nat_lit 1), (nat_lit 1), q78)])) p10 
(oSet (xMove g0) p11 
(oSet (xTurn (tnMkMap (.one (.int .i64)))) p12 
(oSet (xLook (lkBuild q79 [((nat_lit 0), (nat_lit 3), g10), ((nat_lit 3), (nat_lit 1), q2), ((nat_lit 4), (nat_lit 1), g11), ((nat_lit 5), (nat_lit 1), g12)])) p13 
(oSet (xTurn (tnBox g13)) p14 
(oSet (xMove g14) p2 
(oSet (xMove q16) p3 
oEnd))))))) kRet)))⟩
def q80 : OpdF := kC (.func (.func (nat_lit 135)) ⟨[]⟩ ⟨[]⟩)
noncomputable def k72 : KFun := ⟨[rTmp (nat_lit 4) g4], (kSeq (oSet (xMove q16) p4 
oEnd) (kSeq (oSet (xMove g0) p5 
(oSet (xMove g1) p6 
(oSet (xCall q80 [g5, g6]) p7 
(oSet (xMove g7) p4 
oEnd)))) kRet))⟩
def q81 : OpdF := kC (.func (.func (nat_lit 104)) ⟨[]⟩ ⟨[]⟩)
def q82 : OpdF := kC (.int .i64 (.ofNat (nat_lit 10)))
noncomputable def k76 : KFun := ⟨[rTmp (nat_lit 2) g2], (kSeq (oSet (xMove q16) p2 
oEnd) (kSeq (kBlock (nat_lit 0) (kSeq (oSet (xMove g0) p4 
(oSet (xCall q81 [g4]) p5 
(oSet (xMove g5) p3 
oEnd))) (kCond g3 (kSeq (oSet (xMove q11) p2 
oEnd) kRet) (kSeq (oSet (xMove g0) p7 
(oSet (xNil g7) p8 
(oSet (xLook (lkFieldAddr (nat_lit 39) g8)) p9 
(oSet (xLook (lkLoad1 g9)) p10 
(oSet (xMove g10) p6 
oEnd))))) (kCond g6 (kSeq (oSet (xMove q82) p2 
oEnd) kRet) kSkip))))) (kSeq (oSet (xMove q16) p2 
oEnd) kRet)))⟩
def q83 : OpdF := kC (.func (.func (nat_lit 138)) ⟨[]⟩ ⟨[]⟩)
def q84 : List Value := [(.bool false), (.int .u32 (.ofNat (nat_lit 0))), (.int .u32 (.ofNat (nat_lit 0))), (.int .u32 (.ofNat (nat_lit 0))), (.int .u32 (.ofNat (nat_lit 0))), (.int .u32 (.ofNat (nat_lit 0))), (.int .u32 (.ofNat (nat_lit 0))), (.int .u32 (.ofNat (nat_lit 0))), (.int .u32 (.ofNat (nat_lit 0))), (.int .u8 (.ofNat (nat_lit 0))), (.int .u8 (.ofNat (nat_lit 0))), (.int .u8 (.ofNat (nat_lit 0))), (.int .u8 (.ofNat (nat_lit 0))), (.int .u8 (.ofNat (nat_lit 0))), (.int .u8 (.ofNat (nat_lit 0))), (.int .u8 (.ofNat (nat_lit 0))), (.int .u8 (.ofNat (nat_lit 0))), (.int .u8 (.ofNat (nat_lit 0))), (.int .u8 (.ofNat (nat_lit 0))), (.int .u8 (.ofNat (nat_lit 0))), (.int .u8 (.ofNat (nat_lit 0))), (.int .u8 (.ofNat (nat_lit 0))), (.int .u8 (.ofNat (nat_lit 0))), (.int .u8 (.ofNat (nat_lit 0))), (.int .u8 (.ofNat (nat_lit 0))), (.int .u8 (.ofNat (nat_lit 0))), (.int .u8 (.ofNat (nat_lit 0))), (.int .u8 (.ofNat (nat_lit 0))), (.int .u8 (.ofNat (nat_lit 0))), (.int .u8 (.ofNat (nat_lit 0))), (.int .u8 (.ofNat (nat_lit 0))), (.int .u8 (.ofNat (nat_lit 0))), (.int .u8 (.ofNat (nat_lit 0))), (.int .u8 (.ofNat (nat_lit 0))), (.int .u8 (.ofNat (nat_lit 0))), (.int .u8 (.ofNat (nat_lit 0))), (.int .u8 (.ofNat (nat_lit 0))), (.int .u8 (.ofNat (nat_lit 0))), (.int .u8 (.ofNat (nat_lit 0))), (.int .u8 (.ofNat (nat_lit 0))), (.int .u8 (.ofNat (nat_lit 0))), (.int .u8 (.ofNat (nat_lit 0))), (.int .u8 (.ofNat (nat_lit 0))), (.int .u8 (.ofNat (nat_lit 0))), (.int .u8 (.ofNat (nat_lit 0))), (.int .u8 (.ofNat (nat_lit 0))), (.int .u8 (.ofNat (nat_lit 0))), (.int .u8 (.ofNat (nat_lit 0))), (.int .u8 (.ofNat (nat_lit 0))), (.int .u8 (.ofNat (nat_lit 0))), (.int .u8 (.ofNat (nat_lit 0))), (.int .u8 (.ofNat (nat_lit 0))), (.int .u8 (.ofNat (nat_lit 0))), (.int .u8 (.ofNat (nat_lit 0))), (.int .u8 (.ofNat (nat_lit 0))), (.int .u8 (.ofNat (nat_lit 0))), (.int .u8 (.ofNat (nat_lit 0))), (.int .u8 (.ofNat (nat_lit 0))), (.int .u8 (.ofNat (nat_lit 0))), (.int .u8 (.ofNat (nat_lit 0))), (.int .u8 (.ofNat (nat_lit 0))), (.int .u8 (.ofNat (nat_lit 0))), (.int .u8 (.ofNat (nat_lit 0))), (.int .u8 (.ofNat (nat_lit 0))), (.int .u8 (.ofNat (nat_lit 0))), (.int .u8 (.ofNat (nat_lit 0))), (.int .u8 (.ofNat (nat_lit 0))), (.int .u8 (.ofNat (nat_lit 0))), (.int .u8 (.ofNat (nat_lit 0))), (.int .u8 (.ofNat (nat_lit 0))), (.int .u8 (.ofNat (nat_lit 0))), (.int .u8 (.ofNat (nat_lit 0))), (.int .u8 (.ofNat (nat_lit 0))), (.int .i64 (.ofNat (nat_lit 0)))]
noncomputable def k77 : KFun := ⟨[rTmp (nat_lit 0) g0], (kSeq (oSet (xMove q4) p0 
oEnd) (kSeq (oSet (xCall q83 []) p1 
(oSet (xLook (lkBuild q84 [((nat_lit 0), (nat_lit 1), q2), ((nat_lit 1), (nat_lit 8), g1)])) p2 
(oSet (xTurn (tnBox g2)) p3 
(oSet (xMove g3) p0 
oEnd)))) kRet))⟩
def q85 : OpdF := kC (.func (.func (nat_lit 139)) ⟨[]⟩ ⟨[]⟩)
def q86 : OpdF := kC (.int .i64 (.ofNat (nat_lit 64)))
def q87 : OpdF := kC (.func (.func (nat_lit 140)) ⟨[]⟩ ⟨[]⟩)
noncomputable def k78 : KFun := ⟨[], (kSeq (kSeq (oSet (xMove g0) p5 
(oSet (xCall q85 [g5]) p6 
oEnd)) (kCond g6 kRet kSkip)) (kBlock (nat_lit 0) (kLoop (kSeq (kSeq (oSet (xMove g1) p7 
(oSet (xLook (lkLen .sl g7)) p8 
(oSet (xLook (lkBin .gtr g8 q16)) p9 
oEnd))) (kCond g9 kSkip (kExit (nat_lit 0)))) (kBlock (nat_lit 1) (kSeq (kDraw 
(dLook (nat_lit 0) [] [] (lkMove g0) p10 
(dTurn (nat_lit 1) [] [] false (xNil g10) p11 
(dLook (nat_lit 2) [] [] (lkFieldAddr (nat_lit 9) g11) p12 
(dLook (nat_lit 3) [] [] (lkMove g0) p13 
(dTurn (nat_lit 4) [] [] false (xNil g13) p14 
(dLook (nat_lit 5) [] [] (lkFieldAddr (nat_lit 73) g14) p15 
(dLook (nat_lit 6) [] [] (lkLoad1 g15) p16 
(dLook (nat_lit 7) [] [] (lkBin .rem g16 q86) p17 
(dLook (nat_lit 8) [] [] (lkSliceArr (nat_lit 64) (nat_lit 1) g12 (some g17) none none) p18 
(dLook (nat_lit 9) [] [] (lkMove g1) p19 
(dTurn (nat_lit 10) [] [] true (xTurn (tnCopy (nat_lit 1) g18 g19)) p20 
(dLook (nat_lit 11) [] [(nat_lit 10)] (lkMove g20) p4 (dEnd [(nat_lit 10), (nat_lit 11), (nat_lit 12), (nat_lit 13), (nat_lit 14), (nat_lit 15), (nat_lit 16), (nat_lit 17), (nat_lit 18), (nat_lit 19), (nat_lit 20), (nat_lit 4)])))))))))))))) (kSeq (oSet (xMove g0) p21 
(oSet (xNil g21) p22 
(oSet (xLook (lkFieldAddr (nat_lit 73) g22)) p23 
(oSet (xLook (lkLoad1 g23)) p24 
(oSet (xMove g4) p25 
(oSet (xLook (lkBin .add g24 g25)) p26 
(oSet (xNil g21) p27 
(oSet (xLook (lkFieldAddr (nat_lit 73) g27)) p28 
(oDo (xTurn (tnStore (nat_lit 1) g28 g26)) 
oEnd))))))))) (kSeq (oSet (xMove g1) p29 
(oSet (xMove g4) p30 
(oSet (xLook (lkSliceSl (nat_lit 1) g29 (some g30) none none)) p31 
(oSet (xMove g31) p1 
oEnd)))) (kSeq (oSet (xMove g0) p32 
(oSet (xNil g32) p33 
(oSet (xLook (lkFieldAddr (nat_lit 73) g33)) p34 
(oSet (xLook (lkLoad1 g34)) p35 
(oSet (xLook (lkBin .rem g35 q86)) p36 
(oSet (xLook (lkEq false .int g36 q16)) p37 
oEnd)))))) (kCond g37 (kDraw 
(dLook (nat_lit 0) [] [] (lkMove g0) p38 
(dLook (nat_lit 1) [] [] (lkMove g0) p39 
(dTurn (nat_lit 2) [] [] false (xNil g39) p40 
(dLook (nat_lit 3) [] [] (lkFieldAddr (nat_lit 1) g40) p41 
(dLook (nat_lit 4) [] [] (lkLoadN (nat_lit 8) g41) p42 
(dLook (nat_lit 5) [] [] (lkMove g0) p43 
(dTurn (nat_lit 6) [] [] false (xNil g43) p44 
(dLook (nat_lit 7) [] [] (lkFieldAddr (nat_lit 9) g44) p45 
(dLook (nat_lit 8) [] [] (lkSliceArr (nat_lit 64) (nat_lit 1) g45 none none none) p46 
(dTurn (nat_lit 9) [] [] true (xCall q87 [g42, g46]) p47 
(dTurn (nat_lit 10) [] [(nat_lit 9)] false (xNil g38) p48 
(dLook (nat_lit 11) [] [(nat_lit 9)] (lkFieldAddr (nat_lit 1) g48) p49 
(dTurn (nat_lit 12) [] [(nat_lit 9)] true (xTurn (tnStore (nat_lit 8) g49 g47)) noDst (dEnd [(nat_lit 38), (nat_lit 39), (nat_lit 40), (nat_lit 41), (nat_lit 42), (nat_lit 43), (nat_lit 44), (nat_lit 45), (nat_lit 46), (nat_lit 47), (nat_lit 48), (nat_lit 49)]))))))))))))))) kSkip))))))))))⟩
def q88 : List Value := [(.int .u8 (.ofNat (nat_lit 0))), (.int .u8 (.ofNat (nat_lit 0))), (.int .u8 (.ofNat (nat_lit 0))), (.int .u8 (.ofNat (nat_lit 0))), (.int .u8 (.ofNat (nat_lit 0))), (.int .u8 (.ofNat (nat_lit 0))), (.int .u8 (.ofNat (nat_lit 0))), (.int .u8 (.ofNat (nat_lit 0))), (.int .u8 (.ofNat (nat_lit 0))), (.int .u8 (.ofNat (nat_lit 0))), (.int .u8 (.ofNat (nat_lit 0))), (.int .u8 (.ofNat (nat_lit 0))), (.int .u8 (.ofNat (nat_lit 0))), (.int .u8 (.ofNat (nat_lit 0))), (.int .u8 (.ofNat (nat_lit 0))), (.int .u8 (.ofNat (nat_lit 0))), (.int .u8 (.ofNat (nat_lit 0))), (.int .u8 (.ofNat (nat_lit 0))), (.int .u8 (.ofNat (nat_lit 0))), (.int .u8 (.ofNat (nat_lit 0))), (.int .u8 (.ofNat (nat_lit 0))), (.int .u8 (.ofNat (nat_lit 0))), (.int .u8 (.ofNat (nat_lit 0))), (.int .u8 (.ofNat (nat_lit 0))), (.int .u8 (.ofNat (nat_lit 0))), (.int .u8 (.ofNat (nat_lit 0))), (.int .u8 (.ofNat (nat_lit 0))), (.int .u8 (.ofNat (nat_lit 0))), (.int .u8 (.ofNat (nat_lit 0))), (.int .u8 (.ofNat (nat_lit 0))), (.int .u8 (.ofNat (nat_lit 0))), (.int .u8 (.ofNat (nat_lit 0))), (.int .u8 (.ofNat (nat_lit 0))), (.int .u8 (.ofNat (nat_lit 0))), (.int .u8 (.ofNat (nat_lit 0))), (.int .u8 (.ofNat (nat_lit 0))), (.int .u8 (.ofNat (nat_lit 0))), (.int .u8 (.ofNat (nat_lit 0))), (.int .u8 (.ofNat (nat_lit 0))), (.int .u8 (.ofNat (nat_lit 0))), (.int .u8 (.ofNat (nat_lit 0))), (.int .u8 (.ofNat (nat_lit 0))), (.int .u8 (.ofNat (nat_lit 0))), (.int .u8 (.ofNat (nat_lit 0))), (.int .u8 (.ofNat (nat_lit 0))), (.int .u8 (.ofNat (nat_lit 0))), (.int .u8 (.ofNat (nat_lit 0))), (.int .u8 (.ofNat (nat_lit 0))), (.int .u8 (.ofNat (nat_lit 0))), (.int .u8 (.ofNat (nat_lit 0))), (.int .u8 (.ofNat (nat_lit 0))), (.int .u8 (.ofNat (nat_lit 0))), (.int .u8 (.ofNat (nat_lit 0))), (.int .u8 (.ofNat (nat_lit 0))), (.int .u8 (.ofNat (nat_lit 0))), (.int .u8 (.ofNat (nat_lit 0))), (.int .u8 (.ofNat (nat_lit 0))), (.int .u8 (.ofNat (nat_lit 0))), (.int .u8 (.ofNat (nat_lit 0))), (.int .u8 (.ofNat (nat_lit 0))), (.int .u8 (.ofNat (nat_lit 0))), (.int .u8 (.ofNat (nat_lit 0))), (.int .u8 (.ofNat (nat_lit 0))), (.int .u8 (.ofNat (nat_lit 0))), (.int .u8 (.ofNat (nat_lit 0))), (.int .u8 (.ofNat (nat_lit 0))), (.int .u8 (.ofNat (nat_lit 0))), (.int .u8 (.ofNat (nat_lit 0))), (.int .u8 (.ofNat (nat_lit 0))), (.int .u8 (.ofNat (nat_lit 0))), (.int .u8 (.ofNat (nat_lit 0))), (.int .u8 (.ofNat (nat_lit 0)))]
def q89 : OpdF := kC (.int .u8 (.ofNat (nat_lit 128)))
def q90 : OpdF := kC (.int .i64 (.ofNat (nat_lit 119)))
def q91 : OpdF := kC (.int .u64 (.ofNat (nat_lit 8)))
def q92 : OpdF := kC (.int .i64 (.ofNat (nat_lit 56)))
def q93 : OpdF := kC (.int .i64 (.ofNat (nat_lit 24)))
noncomputable def k79 : KFun := ⟨[rCellN (nat_lit 2) g2 (nat_lit 32)], (kSeq (oSet (xTurn (tnAlloc q6)) p2 
oEnd) (kSeq (kSeq (oSet (xMove g0) p12 
(oSet (xCall q85 [g12]) p13 
oEnd)) (kCond g13 (kSeq (oSet (xLook (lkBuild q6 [])) p14 
(oDo (xTurn (tnStore (nat_lit 32) g2 g14)) 
oEnd)) kRet) kSkip)) (kSeq (oSet (xMove g0) p15 
(oSet (xNil g15) p16 
(oSet (xLook (lkLoadN (nat_lit 74) g16)) p17 
(oSet (xTurn (tnAlloc q84)) p3 
(oDo (xTurn (tnStore (nat_lit 74) g3 g17)) 
oEnd))))) (kSeq (oSet (xLook (lkBuild q88 [((nat_lit 0), (nat_lit 1), q89)])) p18 
(oSet (xTurn (tnAlloc q88)) p4 
(oDo (xTurn (tnStore (nat_lit 72) g4 g18)) 
oEnd))) (kSeq (oSet (xMove g0) p19 
(oSet (xNil g19) p20 
(oSet (xLook (lkFieldAddr (nat_lit 73) g20)) p21 
(oSet (xLook (lkLoad1 g21)) p22 
(oSet (xLook (lkBin .rem g22 q86)) p23 
(oSet (xLook (lkBin .sub q90 g23)) p24 
(oSet (xLook (lkBin .rem g24 q86)) p25 
(oSet (xLook (lkBin .add q11 g25)) p26 
(oSet (xMove g26) p5 
oEnd))))))))) (kSeq (oSet (xMove g0) p27 
(oSet (xNil g27) p28 
(oSet (xLook (lkFieldAddr (nat_lit 73) g28)) p29 
(oSet (xLook (lkLoad1 g29)) p30 
(oSet (xLook (lkIntTo .u64 g30)) p31 
(oSet (xLook (lkBin .mul g31 q91)) p32 
(oSet (xMove g32) p6 
oEnd))))))) (kSeq (kSeq (oSet (xMove q16) p33 
oEnd) (kBlock (nat_lit 0) (kLoop (kSeq (oSet (xLook (lkBin .lss g33 q20)) p34 
oEnd) (kSeq (kCond g34 kSkip (kExit (nat_lit 0))) (kSeq (kBlock (nat_lit 1) (kSeq (oSet (xMove g33) p35 
(oSet (xMove g35) p7 
oEnd)) (oSet (xMove g5) p36 
(oSet (xMove g7) p37 
(oSet (xLook (lkBin .add g36 g37)) p38 
(oSet (xMove g6) p39 
(oSet (xMove g7) p40 
(oSet (xLook (lkBin .mul q20 g40)) p41 
(oSet (xLook (lkBin .sub q92 g41)) p42 
(oSet (xLook (lkBin .shr g39 g42)) p43 
(oSet (xLook (lkIntTo .u8 g43)) p44 
(oSet (xLook (lkIxArr (nat_lit 72) (nat_lit 1) g4 g38)) p45 
(oDo (xTurn (tnStore (nat_lit 1) g45 g44)) 
oEnd))))))))))))) (oSet (xLook (lkBin .add g33 q11)) p46 
(oSet (xMove g46) p33 
oEnd)))))))) (kSeq (oSet (xMove g5) p47 
(oSet (xLook (lkBin .add g47 q20)) p48 
(oSet (xLook (lkSliceArr (nat_lit 72) (nat_lit 1) g4 none (some g48) none)) p49 
(oSet (xCall q14 [g3, g49]) p50 
oEnd)))) (kSeq (oSet (xTurn (tnAlloc q6)) p8 
oEnd) (kSeq (kSeq (oSet (xLook (lkFieldAddr (nat_lit 1) g3)) p51 
(oSet (xLook (lkLoadN (nat_lit 8) g51)) p52 
(oSet (xMove q16) p53 
oEnd))) (kBlock (nat_lit 2) (kLoop (kSeq (oSet (xLook (lkBin .lss g53 q20)) p54 
oEnd) (kSeq (kCond g54 kSkip (kExit (nat_lit 2))) (kSeq (kBlock (nat_lit 3) (kSeq (oSet (xMove g53) p55 
(oSet (xLook (lkIxVal1 (nat_lit 8) g52 g53)) p56 
(oSet (xMove g55) p9 
(oSet (xMove g56) p10 
oEnd)))) (kSeq (oSet (xMove q16) p57 
oEnd) (kBlock (nat_lit 4) (kLoop (kSeq (oSet (xLook (lkBin .lss g57 q19)) p58 
oEnd) (kSeq (kCond g58 kSkip (kExit (nat_lit 4))) (kSeq (kBlock (nat_lit 5) (kSeq (oSet (xMove g57) p59 
(oSet (xMove g59) p11 
oEnd)) (oSet (xMove g9) p60 
(oSet (xLook (lkBin .mul q19 g60)) p61 
(oSet (xMove g11) p62 
(oSet (xLook (lkBin .add g61 g62)) p63 
(oSet (xMove g10) p64 
(oSet (xMove g11) p65 
(oSet (xLook (lkBin .mul q20 g65)) p66 
(oSet (xLook (lkBin .sub q93 g66)) p67 
(oSet (xLook (lkBin .shr g64 g67)) p68 
(oSet (xLook (lkIntTo .u8 g68)) p69 
(oSet (xLook (lkIxArr (nat_lit 32) (nat_lit 1) g8 g63)) p70 
(oDo (xTurn (tnStore (nat_lit 1) g70 g69)) 
oEnd)))))))))))))) (oSet (xLook (lkBin .add g57 q11)) p71 
(oSet (xMove g71) p57 
oEnd)))))))))) (oSet (xLook (lkBin .add g53 q11)) p72 
(oSet (xMove g72) p53 
oEnd)))))))) (kSeq (oSet (xLook (lkLoadN (nat_lit 32) g8)) p73 
(oDo (xTurn (tnStore (nat_lit 32) g2 g73)) 
oEnd)) kRet)))))))))))⟩
def q94 : OpdF := kC (.func (.func (nat_lit 99)) ⟨[]⟩ ⟨[]⟩)
def q95 : OpdF := kC (.func (.func (nat_lit 145)) ⟨[]⟩ ⟨[]⟩)
noncomputable def k81 : KFun := ⟨[rTmp (nat_lit 4) g4, rTmp (nat_lit 5) g5], (kSeq (oSet (xMove q16) p4 
(oSet (xMove q16) p5 
oEnd)) (kSeq (oSet (xMove g0) p10 
(oSet (xCall q94 [g10]) p11 
(oSet (xMove g1) p12 
(oSet (xCall q95 [g11, g12]) p13 
(oSet (xMove g13) p9 
(oSet (xLook (lkExtract (nat_lit 0) g9)) p14 
(oSet (xLook (lkExtract (nat_lit 1) g9)) p15 
(oSet (xLook (lkExtract (nat_lit 2) g9)) p16 
(oSet (xMove g14) p6 
(oSet (xMove g15) p7 
(oSet (xMove g16) p8 
oEnd))))))))))) (kSeq (kSeq (oSet (xMove g8) p17 
(oSet (xLook (lkEq true .int g17 q16)) p18 
oEnd)) (kCond g18 (kSeq (oSet (xMove q16) p4 
(oSet (xMove q20) p5 
oEnd)) kRet) kSkip)) (kSeq (oSet (xMove g6) p19 
(oSet (xMove g19) p4 
(oSet (xMove q16) p5 
oEnd))) kRet))))⟩
def q96 : OpdF := kC (.int .i64 (.ofNat (nat_lit 37)))
noncomputable def k82 : KFun := ⟨[rTmp (nat_lit 2) g2], (kSeq (oSet (xMove q16) p2 
oEnd) (kSeq (kSeq (oSet (xMove g0) p3 
(oSet (xLook (lkBin .lss g3 q16)) p4 
(oSet (xMove g4) p5 
(oSetIf (wantF g5) (xMove g0) p6 
(oSetIf (wantF g5) (xLook (lkBin .gtr g6 q39)) p7 
(oSet (xLook (lkPick g5 q2 g7)) p8 
oEnd)))))) (kCond g8 (kSeq (oSet (xMove q16) p2 
oEnd) kRet) kSkip)) (kSeq (oSet (xMove g0) p9 
(oSet (xLook (lkBin .add q96 g9)) p10 
(oSet (xLook (lkBin .add g10 q86)) p11 
(oSet (xLook (lkBin .sub g11 q11)) p12 
(oSet (xLook (lkBin .quo g12 q86)) p13 
(oSet (xMove g13) p2 
oEnd)))))) kRet)))⟩
def q97 : List Value := [(.slice none (nat_lit 0) (nat_lit 0)), (.map none)]
noncomputable def k85 : KFun := ⟨[rCellN (nat_lit 0) g0 (nat_lit 2)], (kSeq (oSet (xTurn (tnAlloc q97)) p0 
oEnd) (kSeq (oSet (xTurn (tnMkMap (.many (nat_lit 32) .u8))) p1 
(oSet (xLook (lkBuild q97 [((nat_lit 1), (nat_lit 1), g1)])) p2 
(oDo (xTurn (tnStore (nat_lit 2) g0 g2)) 
oEnd))) kRet))⟩
def q98 : OpdF := kC (.func (.func (nat_lit 150)) ⟨[]⟩ ⟨[]⟩)
def q99 : List Value := [(.int .u8 (.ofNat (nat_lit 0))), (.int .u8 (.ofNat (nat_lit 0))), (.int .u8 (.ofNat (nat_lit 0))), (.int .u8 (.ofNat (nat_lit 0))), (.int .u8 (.ofNat (nat_lit 0))), (.int .u8 (.ofNat (nat_lit 0))), (.int .u8 (.ofNat (nat_lit 0))), (.int .u8 (.ofNat (nat_lit 0))), (.int .u8 (.ofNat (nat_lit 0))), (.int .u8 (.ofNat (nat_lit 0))), (.int .u8 (.ofNat (nat_lit 0))), (.int .u8 (.ofNat (nat_lit 0))), (.int .u8 (.ofNat (nat_lit 0))), (.int .u8 (.ofNat (nat_lit 0))), (.int .u8 (.ofNat (nat_lit 0))), (.int .u8 (.ofNat (nat_lit 0))), (.int .u8 (.ofNat (nat_lit 0))), (.int .u8 (.ofNat (nat_lit 0))), (.int .u8 (.ofNat (nat_lit 0))), (.int .u8 (.ofNat (nat_lit 0))), (.int .u8 (.ofNat (nat_lit 0))), (.int .u8 (.ofNat (nat_lit 0))), (.int .u8 (.ofNat (nat_lit 0))), (.int .u8 (.ofNat (nat_lit 0))), (.int .u8 (.ofNat (nat_lit 0))), (.int .u8 (.ofNat (nat_lit 0))), (.int .u8 (.ofNat (nat_lit 0))), (.int .u8 (.ofNat (nat_lit 0))), (.int .u8 (.ofNat (nat_lit 0))), (.int .u8 (.ofNat (nat_lit 0))), (.int .u8 (.ofNat (nat_lit 0))), (.int .u8 (.ofNat (nat_lit 0))), (.int .u8 (.ofNat (nat_lit 0))), (.int .u8 (.ofNat (nat_lit 0))), (.int .u8 (.ofNat (nat_lit 0))), (.int .u8 (.ofNat (nat_lit 0))), (.int .u8 (.ofNat (nat_lit 0))), (.int .u8 (.ofNat (nat_lit 0))), (.int .u8 (.ofNat (nat_lit 0))), (.int .u8 (.ofNat (nat_lit 0))), (.int .u8 (.ofNat (nat_lit 0))), (.int .u8 (.ofNat (nat_lit 0))), (.int .u8 (.ofNat (nat_lit 0))), (.int .u8 (.ofNat (nat_lit 0))), (.int .u8 (.ofNat (nat_lit 0))), (.int .u8 (.ofNat (nat_lit 0))), (.int .u8 (.ofNat (nat_lit 0))), (.int .u8 (.ofNat (nat_lit 0))), (.int .u8 (.ofNat (nat_lit 0))), (.int .u8 (.ofNat (nat_lit 0))), (.int .u8 (.ofNat (nat_lit 0))), (.int .u8 (.ofNat (nat_lit 0))), (.int .u8 (.ofNat (nat_lit 0))), (.int .u8 (.ofNat (nat_lit 0))), (.int .u8 (.ofNat (nat_lit 0))), (.int .u8 (.ofNat (nat_lit 0))), (.int .u8 (.ofNat (nat_lit 0))), (.int .u8 (.ofNat (nat_lit 0))), (.int .u8 (.ofNat (nat_lit 0))), (.int .u8 (.ofNat (nat_lit 0))), (.int .u8 (.ofNat (nat_lit 0))), (.int .u8 (.ofNat (nat_lit 0))), (.int .u8 (.ofNat (nat_lit 0))), (.int .u8 (.ofNat (nat_lit 0)))]
def q100 : List Value := [(.int .i64 (.ofNat (nat_lit 0))), (.int .u8 (.ofNat (nat_lit 0))), (.int .u8 (.ofNat (nat_lit 0))), (.int .u8 (.ofNat (nat_lit 0))), (.int .u8 (.ofNat (nat_lit 0))), (.int .u8 (.ofNat (nat_lit 0))), (.int .u8 (.ofNat (nat_lit 0))), (.int .u8 (.ofNat (nat_lit 0))), (.int .u8 (.ofNat (nat_lit 0))), (.int .u8 (.ofNat (nat_lit 0))), (.int .u8 (.ofNat (nat_lit 0))), (.int .u8 (.ofNat (nat_lit 0))), (.int .u8 (.ofNat (nat_lit 0))), (.int .u8 (.ofNat (nat_lit 0))), (.int .u8 (.ofNat (nat_lit 0))), (.int .u8 (.ofNat (nat_lit 0))), (.int .u8 (.ofNat (nat_lit 0))), (.int .u8 (.ofNat (nat_lit 0))), (.int .u8 (.ofNat (nat_lit 0))), (.int .u8 (.ofNat (nat_lit 0))), (.int .u8 (.ofNat (nat_lit 0))), (.int .u8 (.ofNat (nat_lit 0))), (.int .u8 (.ofNat (nat_lit 0))), (.int .u8 (.ofNat (nat_lit 0))), (.int .u8 (.ofNat (nat_lit 0))), (.int .u8 (.ofNat (nat_lit 0))), (.int .u8 (.ofNat (nat_lit 0))), (.int .u8 (.ofNat (nat_lit 0))), (.int .u8 (.ofNat (nat_lit 0))), (.int .u8 (.ofNat (nat_lit 0))), (.int .u8 (.ofNat (nat_lit 0))), (.int .u8 (.ofNat (nat_lit 0))), (.int .u8 (.ofNat (nat_lit 0))), (.int .u8 (.ofNat (nat_lit 0))), (.int .u8 (.ofNat (nat_lit 0))), (.int .u8 (.ofNat (nat_lit 0))), (.int .u8 (.ofNat (nat_lit 0))), (.int .u8 (.ofNat (nat_lit 0))), (.int .u8 (.ofNat (nat_lit 0))), (.int .u8 (.ofNat (nat_lit 0))), (.int .u8 (.ofNat (nat_lit 0))), (.int .u8 (.ofNat (nat_lit 0))), (.int .u8 (.ofNat (nat_lit 0))), (.int .u8 (.ofNat (nat_lit 0))), (.int .u8 (.ofNat (nat_lit 0))), (.int .u8 (.ofNat (nat_lit 0))), (.int .u8 (.ofNat (nat_lit 0))), (.int .u8 (.ofNat (nat_lit 0))), (.int .u8 (.ofNat (nat_lit 0))), (.int .u8 (.ofNat (nat_lit 0))), (.int .u8 (.ofNat (nat_lit 0))), (.int .u8 (.ofNat (nat_lit 0))), (.int .u8 (.ofNat (nat_lit 0))), (.int .u8 (.ofNat (nat_lit 0))), (.int .u8 (.ofNat (nat_lit 0))), (.int .u8 (.ofNat (nat_lit 0))), (.int .u8 (.ofNat (nat_lit 0))), (.int .u8 (.ofNat (nat_lit 0))), (.int .u8 (.ofNat (nat_lit 0))), (.int .u8 (.ofNat (nat_lit 0))), (.int .u8 (.ofNat (nat_lit 0))), (.int .u8 (.ofNat (nat_lit 0))), (.int .u8 (.ofNat (nat_lit 0))), (.int .u8 (.ofNat (nat_lit 0))), (.int .u8 (.ofNat (nat_lit 0)))]
noncomputable def k86 : KFun := ⟨[rTmp (nat_lit 4) g4, rTmp (nat_lit 5) g5], (kSeq (oSet (xMove q5) p4 
(oSet (xMove q16) p5 
oEnd)) (kSeq (kSeq (oSet (xMove g0) p10 
(oSet (xMove g1) p11 
(oSet (xCall q98 [g10, g11]) p12 
(oSet (xMove g12) p6 
oEnd)))) (kSeq (oSet (xMove g6) p13 
(oSet (xLook (lkEq true .int g13 q16)) p14 
oEnd)) (kCond g14 (kSeq (oSet (xMove g6) p15 
(oSet (xMove q5) p4 
(oSet (xMove g15) p5 
oEnd))) kRet) kSkip))) (kSeq (oSet (xMove g0) p16 
(oSet (xNil g16) p17 
(oSet (xLook (lkFieldAddr (nat_lit 5) g17)) p18 
(oSet (xLook (lkLoad1 g18)) p19 
(oSet (xMove g1) p20 
(oSet (xLook (lkLookup (.one (.int .i64)) (.agg ⟨[(.int .u8 (.ofNat (nat_lit 0))), (.int .u8 (.ofNat (nat_lit 0))), (.int .u8 (.ofNat (nat_lit 0))), (.int .u8 (.ofNat (nat_lit 0))), (.int .u8 (.ofNat (nat_lit 0))), (.int .u8 (.ofNat (nat_lit 0))), (.int .u8 (.ofNat (nat_lit 0))), (.int .u8 (.ofNat (nat_lit 0))), (.int .u8 (.ofNat (nat_lit 0))), (.int .u8 (.ofNat (nat_lit 0))), (.int .u8 (.ofNat (nat_lit 0))), (.int .u8 (.ofNat (nat_lit 0))), (.int .u8 (.ofNat (nat_lit 0))), (.int .u8 (.ofNat (nat_lit 0))), (.int .u8 (.ofNat (nat_lit 0))), (.int .u8 (.ofNat (nat_lit 0))), (.int .u8 (.ofNat (nat_lit 0))), (.int .u8 (.ofNat (nat_lit 0))), (.int .u8 (.ofNat (nat_lit 0))), (.int .u8 (.ofNat (nat_lit 0))), (.int .u8 (.ofNat (nat_lit 0))), (.int .u8 (.ofNat (nat_lit 0))), (.int .u8 (.ofNat (nat_lit 0))), (.int .u8 (.ofNat (nat_lit 0))), (.int .u8 (.ofNat (nat_lit 0))), (.int .u8 (.ofNat (nat_lit 0))), (.int .u8 (.ofNat (nat_lit 0))), (.int .u8 (.ofNat (nat_lit 0))), (.int .u8 (.ofNat (nat_lit 0))), (.int .u8 (.ofNat (nat_lit 0))), (.int .u8 (.ofNat (nat_lit 0))), (.int .u8 (.ofNat (nat_lit 0))), (.int .u8 (.ofNat (nat_lit 0))), (.int .u8 (.ofNat (nat_lit 0))), (.int .u8 (.ofNat (nat_lit 0))), (.int .u8 (.ofNat (nat_lit 0))), (.int .u8 (.ofNat (nat_lit 0))), (.int .u8 (.ofNat (nat_lit 0))), (.int .u8 (.ofNat (nat_lit 0))), (.int .u8 (.ofNat (nat_lit 0))), (.int .u8 (.ofNat (nat_lit 0))), (.int .u8 (.ofNat (nat_lit 0))), (.int .u8 (.ofNat (nat_lit 0))), (.int .u8 (.ofNat (nat_lit 0))), (.int .u8 (.ofNat (nat_lit 0))), (.int .u8 (.ofNat (nat_lit 0))), (.int .u8 (.ofNat (nat_lit 0))), (.int .u8 (.ofNat (nat_lit 0))), (.int .u8 (.ofNat (nat_lit 0))), (.int .u8 (.ofNat (nat_lit 0))), (.int .u8 (.ofNat (nat_lit 0))), (.int .u8 (.ofNat (nat_lit 0))), (.int .u8 (.ofNat (nat_lit 0))), (.int .u8 (.ofNat (nat_lit 0))), (.int .u8 (.ofNat (nat_lit 0))), (.int .u8 (.ofNat (nat_lit 0))), (.int .u8 (.ofNat (nat_lit 0))), (.int .u8 (.ofNat (nat_lit 0))), (.int .u8 (.ofNat (nat_lit 0))), (.int .u8 (.ofNat (nat_lit 0))), (.int .u8 (.ofNat (nat_lit 0))), (.int .u8 (.ofNat (nat_lit 0))), (.int .u8 (.ofNat (nat_lit 0))), (.int .u8 (.ofNat (nat_lit 0)))]⟩) false g19 g20)) p21 
(oSet (xTurn (tnAlloc q99)) p7 
(oDo (xTurn (tnStore (nat_lit 64) g7 g21)) 
oEnd)))))))) (kSeq (kSeq (oSet (xMove g0) p22 
(oSet (xNil g22) p23 
(oSet (xLook (lkFieldAddr (nat_lit 6) g23)) p24 
(oSet (xLook (lkLoad1 g24)) p25 
(oSet (xLook (lkLen .sl g25)) p26 
(oSet (xMove q16) p27 
oEnd)))))) (kBlock (nat_lit 0) (kLoop (kSeq (oSet (xLook (lkBin .lss g27 g26)) p28 
oEnd) (kSeq (kCond g28 kSkip (kExit (nat_lit 0))) (kSeq (kBlock (nat_lit 1) (kSeq (oSet (xLook (lkIxSl (nat_lit 65) g25 g27)) p29 
(oSet (xLook (lkLoadN (nat_lit 65) g29)) p30 
(oSet (xTurn (tnAlloc q100)) p9 
(oDo (xTurn (tnStore (nat_lit 65) g9 g30)) 
oEnd)))) (kSeq (oSet (xLook (lkFieldAddr (nat_lit 0) g9)) p31 
(oSet (xLook (lkLoad1 g31)) p32 
(oSet (xMove g1) p33 
(oSet (xLook (lkEq false .int g32 g33)) p34 
oEnd)))) (kCond g34 (oSet (xLook (lkFieldAddr (nat_lit 1) g9)) p35 
(oSet (xLook (lkLoadN (nat_lit 64) g35)) p36 
(oDo (xTurn (tnStore (nat_lit 64) g7 g36)) 
oEnd))) kSkip)))) (oSet (xLook (lkBin .add g27 q11)) p37 
(oSet (xMove g37) p27 
oEnd)))))))) (kSeq (oSet (xLook (lkSliceArr (nat_lit 64) (nat_lit 1) g7 none none none)) p38 
(oSet (xMove g38) p4 
(oSet (xMove q16) p5 
oEnd))) kRet)))))⟩
def q101 : OpdF := kC (.func (.func (nat_lit 151)) ⟨[]⟩ ⟨[]⟩)
noncomputable def k87 : KFun := ⟨[rTmp (nat_lit 2) g2], (kSeq (oSet (xMove q16) p2 
oEnd) (kSeq (kSeq (oSet (xMove g0) p3 
(oSet (xCall q101 [g3]) p4 
oEnd)) (kCond g4 (kSeq (oSet (xMove q16) p2 
oEnd) kRet) kSkip)) (kSeq (oSet (xMove g0) p5 
(oSet (xNil g5) p6 
(oSet (xLook (lkFieldAddr (nat_lit 4) g6)) p7 
(oSet (xLook (lkLoad1 g7)) p8 
(oSet (xMove g8) p2 
oEnd))))) kRet)))⟩
def q102 : OpdF := kC (.func (.func (nat_lit 152)) ⟨[]⟩ ⟨[]⟩)
def q103 : OpdF := kC (.func (.func (nat_lit 153)) ⟨[]⟩ ⟨[]⟩)
noncomputable def k88 : KFun := ⟨[rCellN (nat_lit 2) g2 (nat_lit 35), rTmp (nat_lit 3) g3, rTmp (nat_lit 4) g4], (kSeq (oSet (xTurn (tnAlloc q24)) p2 
(oSet (xMove q16) p3 
(oSet (xMove q16) p4 
oEnd))) (kSeq (oSet (xMove g0) p10 
(oSet (xCall q102 [g10]) p11 
(oSet (xMove g11) p9 
(oSet (xLook (lkExtract (nat_lit 0) g9)) p12 
(oSet (xLook (lkExtract (nat_lit 1) g9)) p13 
(oSet (xLook (lkExtract (nat_lit 2) g9)) p14 
(oSet (xMove g12) p5 
(oSet (xMove g13) p6 
(oSet (xMove g14) p7 
oEnd))))))))) (kSeq (kSeq (oSet (xMove g7) p15 
(oSet (xLook (lkEq true .int g15 q16)) p16 
oEnd)) (kCond g16 (kSeq (oSet (xLook (lkBuild q24 [])) p17 
(oSet (xMove g7) p18 
(oDo (xTurn (tnStore (nat_lit 35) g2 g17)) 
(oSet (xMove q16) p3 
(oSet (xMove g18) p4 
oEnd))))) kRet) kSkip)) (kSeq (kSeq (oSet (xMove g5) p19 
(oSet (xCall q103 [g19]) p20 
(oSet (xMove g20) p8 
oEnd))) (kBlock (nat_lit 0) (kSeq (oSet (xMove g8) p22 
(oSet (xLook (lkBin .geq g22 q16)) p23 
(oSet (xMove g23) p21 
oEnd))) (kCond g21 (kSeq (oSet (xMove g5) p24 
(oSet (xMove g8) p25 
(oSet (xLook (lkIxSl (nat_lit 1) g24 g25)) p26 
(oSet (xLook (lkLoad1 g26)) p27 
(oSet (xNil g27) p28 
(oSet (xLook (lkLoadN (nat_lit 35) g28)) p29 
(oSet (xMove g8) p30 
(oDo (xTurn (tnStore (nat_lit 35) g2 g29)) 
(oSet (xMove g30) p3 
(oSet (xMove q16) p4 
oEnd)))))))))) kRet) (kSeq (oSet (xMove g6) p32 
(oSet (xMove g32) p31 
oEnd)) (kCond g31 (kSeq (oSet (xLook (lkBuild q24 [])) p33 
(oDo (xTurn (tnStore (nat_lit 35) g2 g33)) 
(oSet (xMove q16) p3 
(oSet (xMove q25) p4 
oEnd)))) kRet) kSkip)))))) (kSeq (oSet (xLook (lkBuild q24 [])) p34 
(oDo (xTurn (tnStore (nat_lit 35) g2 g34)) 
(oSet (xMove q16) p3 
(oSet (xMove q28) p4 
oEnd)))) kRet)))))⟩
noncomputable def k89d0 : KD := 
(dLook (nat_lit 17) [] [(nat_lit 5), (nat_lit 12), (nat_lit 15)] (lkPick g13 g21 q0) p22 
(dLook (nat_lit 18) [] [(nat_lit 5), (nat_lit 12), (nat_lit 15)] (lkMove g22) p4 (dEnd [(nat_lit 5), (nat_lit 6), (nat_lit 7), (nat_lit 8), (nat_lit 9), (nat_lit 10), (nat_lit 11), (nat_lit 12), (nat_lit 13), (nat_lit 14), (nat_lit 15), (nat_lit 16), (nat_lit 17), (nat_lit 18), (nat_lit 19), (nat_lit 20), (nat_lit 21), (nat_lit 22), (nat_lit 4)])))
noncomputable def k89d1 : KD := 
(dIf [(nat_lit 5), (nat_lit 12), (nat_lit 15)] (wantT g13) p21 (dLook (nat_lit 16) [] [(nat_lit 5), (nat_lit 12), (nat_lit 15)] (lkBin .leq g18 g20) p21 k89d0) k89d0)
noncomputable def k89d2 : KD := 
(dIf [(nat_lit 5), (nat_lit 12)] (wantT g13) p20 (dTurn (nat_lit 15) [(nat_lit 10)] [(nat_lit 5), (nat_lit 12)] true (xCall q18 [g19]) p20 k89d1) k89d1)
noncomputable def k89d3 : KD := 
(dIf [(nat_lit 5)] (wantT g13) p19 (dLook (nat_lit 14) [] [(nat_lit 5)] (lkMove g0) p19 k89d2) k89d2)
noncomputable def k89d4 : KD := 
(dIf [(nat_lit 5), (nat_lit 12)] (wantT g13) p18 (dLook (nat_lit 13) [] [(nat_lit 5), (nat_lit 12)] (lkBin .add g15 g17) p18 k89d3) k89d3)
noncomputable def k89d5 : KD := 
(dIf [(nat_lit 5)] (wantT g13) p17 (dTurn (nat_lit 12) [(nat_lit 10)] [(nat_lit 5)] true (xCall q30 [g16]) p17 k89d4) k89d4)
noncomputable def k89d6 : KD := 
(dIf [(nat_lit 5)] (wantT g13) p16 (dLook (nat_lit 11) [] [(nat_lit 5)] (lkLoadN (nat_lit 2) g3) p16 k89d5) k89d5)
noncomputable def k89d7 : KD := 
(dIf [(nat_lit 5)] (wantT g13) p15 (dLook (nat_lit 10) [] [(nat_lit 5)] (lkLoad1 g14) p15 k89d6) k89d6)
noncomputable def k89d8 : KD := 
(dLook (nat_lit 7) [] [(nat_lit 5)] (lkPick g8 g11 q0) p12 
(dLook (nat_lit 8) [] [(nat_lit 5)] (lkMove g12) p13 
(dIf [(nat_lit 5)] (wantT g13) p14 (dLook (nat_lit 9) [] [(nat_lit 5)] (lkFieldAddr (nat_lit 0) g3) p14 k89d7) k89d7)))
noncomputable def k89d9 : KD := 
(dIf [(nat_lit 5)] (wantT g8) p11 (dLook (nat_lit 6) [] [(nat_lit 5)] (lkBin .gtr g10 q16) p11 k89d8) k89d8)
noncomputable def k89d10 : KD := 
(dIf [] (wantT g8) p10 (dTurn (nat_lit 5) [] [] true (xCall q30 [g9]) p10 k89d9) k89d9)
noncomputable def k89 : KFun := ⟨[rTmp (nat_lit 4) g4], (kSeq (oSet (xTurn (tnBox g1)) p3 
(oSet (xMove q0) p4 
oEnd)) (kSeq (kDraw 
(dLook (nat_lit 0) [] [] (lkFieldAddr (nat_lit 0) g3) p5 
(dLook (nat_lit 1) [] [] (lkLoad1 g5) p6 
(dLook (nat_lit 2) [] [] (lkBin .geq g6 q32) p7 
(dLook (nat_lit 3) [] [] (lkMove g7) p8 
(dIf [] (wantT g8) p9 (dLook (nat_lit 4) [] [] (lkLoadN (nat_lit 2) g3) p9 k89d10) k89d10)))))) kRet))⟩
noncomputable def k90 : KFun := ⟨[rTmp (nat_lit 6) g6, rTmp (nat_lit 7) g7], (kSeq (oSet (xMove q5) p6 
(oSet (xMove q16) p7 
oEnd)) (kSeq (oSet (xMove q5) p8 
oEnd) (kSeq (kSeq (oSet (xMove g2) p12 
(oSet (xMove q16) p13 
oEnd)) (kBlock (nat_lit 0) (kLoop (kSeq (oSet (xLook (lkBin .lss g13 g12)) p14 
oEnd) (kSeq (kCond g14 kSkip (kExit (nat_lit 0))) (kSeq (kBlock (nat_lit 1) (kSeq (oSet (xMove g13) p15 
(oSet (xMove g15) p9 
oEnd)) (kSeq (oSet (xMove g0) p17 
(oSet (xMove g1) p18 
(oSet (xMove g9) p19 
(oSet (xLook (lkBin .add g18 g19)) p20 
(oSet (xCall q17 [g17, g20]) p21 
(oSet (xMove g21) p16 
(oSet (xLook (lkExtract (nat_lit 0) g16)) p22 
(oSet (xLook (lkExtract (nat_lit 1) g16)) p23 
(oSet (xMove g22) p10 
(oSet (xMove g23) p11 
oEnd)))))))))) (kSeq (kSeq (oSet (xMove g11) p24 
(oSet (xLook (lkEq true .int g24 q16)) p25 
oEnd)) (kCond g25 (kSeq (oSet (xMove g11) p26 
(oSet (xMove q5) p6 
(oSet (xMove g26) p7 
oEnd))) kRet) kSkip)) (oSet (xMove g8) p27 
(oSet (xMove g10) p28 
(oSet (xTurn (tnAppend (nat_lit 1) g27 g28)) p29 
(oSet (xMove g29) p8 
oEnd)))))))) (oSet (xLook (lkBin .add g13 q11)) p30 
(oSet (xMove g30) p13 
oEnd)))))))) (kSeq (oSet (xMove g8) p31 
(oSet (xMove g31) p6 
(oSet (xMove q16) p7 
oEnd))) kRet))))⟩
noncomputable def k91 : KFun := ⟨[rTmp (nat_lit 2) g2], (kSeq (oSet (xTurn (tnBox g0)) p1 
(oSet (xMove q16) p2 
oEnd)) (kSeq (oSet (xLook (lkFieldAddr (nat_lit 1) g1)) p3 
(oSet (xLook (lkLoad1 g3)) p4 
(oSet (xCall q41 [g4]) p5 
(oSet (xMove g5) p2 
oEnd)))) kRet))⟩
def q104 : OpdF := kC (.int .i64 (.ofNat (nat_lit 9)))
def q105 : List Value := [(.slice none (nat_lit 0) (nat_lit 0)), (.slice none (nat_lit 0) (nat_lit 0)), (.slice none (nat_lit 0) (nat_lit 0)), (.slice none (nat_lit 0) (nat_lit 0))]
def q106 : List Value := [(.slice none (nat_lit 0) (nat_lit 0)), (.slice none (nat_lit 0) (nat_lit 0))]
def q107 : List Value := [(.int .u8 (.ofNat (nat_lit 0)))]
def q108 : OpdF := kC (.func (.func (nat_lit 154)) ⟨[]⟩ ⟨[]⟩)
noncomputable def k92 : KFun := ⟨[rTmp (nat_lit 2) g2, rTmp (nat_lit 3) g3, rTmp (nat_lit 4) g4], (kSeq (oSet (xMove q16) p2 
(oSet (xMove q5) p3 
(oSet (xMove q16) p4 
oEnd))) (kSeq (kSeq (oSet (xMove g0) p13 
(oSet (xLook (lkLen .sl g13)) p14 
(oSet (xLook (lkBin .lss g14 q86)) p15 
(oSet (xMove g15) p16 
(oSetIf (wantF g16) (xMove g0) p17 
(oSetIf (wantF g16) (xLook (lkLen .sl g17)) p18 
(oSetIf (wantF g16) (xLook (lkBin .rem g18 q86)) p19 
(oSetIf (wantF g16) (xLook (lkEq true .int g19 q16)) p20 
(oSet (xLook (lkPick g16 q2 g20)) p21 
oEnd))))))))) (kCond g21 (kSeq (oSet (xMove q16) p2 
(oSet (xMove q5) p3 
(oSet (xMove q19) p4 
oEnd))) kRet) kSkip)) (kSeq (oSet (xMove g0) p22 
(oSet (xLook (lkIxSl (nat_lit 1) g22 q16)) p23 
(oSet (xLook (lkLoad1 g23)) p24 
(oSet (xLook (lkIntTo .i64 g24)) p25 
(oSet (xMove g25) p5 
(oSet (xMove q16) p6 
oEnd)))))) (kSeq (kSeq (oSet (xMove g0) p26 
(oSet (xLook (lkSliceSl (nat_lit 1) g26 (some q11) (some q76) none)) p27 
(oSet (xLook (lkLen .sl g27)) p28 
(oSet (xMove q16) p29 
oEnd)))) (kBlock (nat_lit 0) (kLoop (kSeq (oSet (xLook (lkBin .lss g29 g28)) p30 
oEnd) (kSeq (kCond g30 kSkip (kExit (nat_lit 0))) (kSeq (kBlock (nat_lit 1) (kSeq (oSet (xLook (lkIxSl (nat_lit 1) g27 g29)) p31 
(oSet (xLook (lkLoad1 g31)) p32 
(oSet (xMove g32) p8 
oEnd))) (oSet (xMove g6) p33 
(oSet (xLook (lkBin .shl g33 q91)) p34 
(oSet (xMove g8) p35 
(oSet (xLook (lkIntTo .i64 g35)) p36 
(oSet (xLook (lkBin .or g34 g36)) p37 
(oSet (xMove g37) p6 
oEnd)))))))) (oSet (xLook (lkBin .add g29 q11)) p38 
(oSet (xMove g38) p29 
oEnd)))))))) (kSeq (kBlock (nat_lit 2) (kSeq (oSet (xMove g5) p40 
(oSet (xLook (lkBin .lss g40 q11)) p41 
(oSet (xMove g41) p42 
(oSetIf (wantF g42) (xMove g5) p43 
(oSetIf (wantF g42) (xLook (lkBin .gtr g43 q104)) p44 
(oSet (xLook (lkPick g42 q2 g44)) p45 
(oSet (xMove g45) p39 
oEnd))))))) (kCond g39 (kSeq (oSet (xMove q16) p2 
(oSet (xMove q5) p3 
(oSet (xMove q32) p4 
oEnd))) kRet) (kSeq (oSet (xMove g6) p47 
(oSet (xLook (lkBin .gtr g47 q39)) p48 
(oSet (xMove g48) p46 
oEnd))) (kCond g46 (kSeq (oSet (xMove q16) p2 
(oSet (xMove q5) p3 
(oSet (xMove q40) p4 
oEnd))) kRet) (kSeq (oSet (xMove g6) p50 
(oSet (xCall q41 [g50]) p51 
(oSet (xLook (lkBin .mul g51 q86)) p52 
(oSet (xMove g0) p53 
(oSet (xLook (lkLen .sl g53)) p54 
(oSet (xLook (lkEq true .int g52 g54)) p55 
(oSet (xMove g55) p49 
oEnd))))))) (kCond g49 (kSeq (oSet (xMove q16) p2 
(oSet (xMove q5) p3 
(oSet (xMove q19) p4 
oEnd))) kRet) kSkip))))))) (kSeq (oSet (xMove g0) p56 
(oSet (xMove g6) p57 
(oSet (xLook (lkBin .add q96 g57)) p58 
(oSet (xLook (lkSliceSl (nat_lit 1) g56 (some q96) (some g58) none)) p59 
(oSet (xMove g59) p9 
oEnd))))) (kSeq (oSet (xMove g9) p60 
(oSet (xCall q38 [g60]) p61 
(oSet (xTurn (tnAlloc q6)) p10 
(oDo (xTurn (tnStore (nat_lit 32) g10 g61)) 
oEnd)))) (kSeq kSkip (kSeq (kSeq (kDraw 
(dLook (nat_lit 0) [] [] (lkMove g0) p62 
(dLook (nat_lit 1) [] [] (lkSliceSl (nat_lit 1) g62 (some q76) (some q96) none) p63 
(dLook (nat_lit 2) [] [] (lkSliceArr (nat_lit 32) (nat_lit 1) g10 none none none) p64 
(dLook (nat_lit 3) [] [] (lkBuild q106 [((nat_lit 0), (nat_lit 1), g63), ((nat_lit 1), (nat_lit 1), g64)]) p65 
(dLook (nat_lit 4) [] [] (lkMove g0) p66 
(dLook (nat_lit 5) [] [] (lkMove g6) p67 
(dLook (nat_lit 6) [] [] (lkBin .add q96 g67) p68 
(dLook (nat_lit 7) [] [] (lkSliceSl (nat_lit 1) g66 (some g68) none none) p69 
(dLook (nat_lit 8) [] [] (lkMove g0) p70 
(dLook (nat_lit 9) [] [] (lkLen .sl g70) p71 
(dLook (nat_lit 10) [] [] (lkBin .sub g71 q96) p72 
(dLook (nat_lit 11) [] [] (lkMove g6) p73 
(dLook (nat_lit 12) [] [] (lkBin .sub g72 g73) p74 
(dTurn (nat_lit 13) [] [] false (xTurn (tnMkSlice q107 g74 g74)) p75 
(dLook (nat_lit 14) [] [] (lkBuild q106 [((nat_lit 0), (nat_lit 1), g69), ((nat_lit 1), (nat_lit 1), g75)]) p76 
(dTurn (nat_lit 15) [] [] false (xTurn (tnBuildSlice q105 [((nat_lit 0), (nat_lit 2), g65), ((nat_lit 2), (nat_lit 2), g76)] (nat_lit 2))) p77 
(dLook (nat_lit 16) [] [] (lkLen .sl g77) p78 
(dLook (nat_lit 17) [] [] (lkMove q16) p79 (dEnd [(nat_lit 62), (nat_lit 63), (nat_lit 64), (nat_lit 65), (nat_lit 66), (nat_lit 67), (nat_lit 68), (nat_lit 69), (nat_lit 70), (nat_lit 71), (nat_lit 72), (nat_lit 73), (nat_lit 74), (nat_lit 75), (nat_lit 76), (nat_lit 77), (nat_lit 78), (nat_lit 79)])))))))))))))))))))) (kBlock (nat_lit 3) (kLoop (kSeq (oSet (xLook (lkBin .lss g79 g78)) p80 
oEnd) (kSeq (kCond g80 kSkip (kExit (nat_lit 3))) (kSeq (kBlock (nat_lit 4) (kSeq (oSet (xLook (lkIxSl (nat_lit 2) g77 g79)) p81 
(oSet (xLook (lkLoadN (nat_lit 2) g81)) p82 
(oSet (xTurn (tnAlloc q106)) p12 
(oDo (xTurn (tnStore (nat_lit 2) g12 g82)) 
oEnd)))) (kSeq (kBlock (nat_lit 5) (kSeq (oSet (xLook (lkFieldAddr (nat_lit 0) g12)) p84 
(oSet (xLook (lkLoad1 g84)) p85 
(oSet (xLook (lkFieldAddr (nat_lit 1) g12)) p86 
(oSet (xLook (lkLoad1 g86)) p87 
(oSet (xCall q108 [g85, g87]) p88 
(oSet (xMove g88) p83 
oEnd)))))) (kCond g83 (kExit (nat_lit 4)) kSkip))) (kSeq (oSet (xMove q16) p2 
(oSet (xMove q5) p3 
(oSet (xMove q28) p4 
oEnd))) kRet)))) (oSet (xLook (lkBin .add g79 q11)) p89 
(oSet (xMove g89) p79 
oEnd)))))))) (kSeq (oSet (xMove g5) p90 
(oSet (xMove g9) p91 
(oSet (xCall q45 [g91]) p92 
(oSet (xMove g90) p2 
(oSet (xMove g92) p3 
(oSet (xMove q16) p4 
oEnd)))))) kRet))))))))))⟩
def q109 : OpdF := kC (.map none)
def q110 : OpdF := kC (.func (.func (nat_lit 155)) ⟨[]⟩ ⟨[]⟩)
def q111 : OpdF := kC (.func (.func (nat_lit 156)) ⟨[]⟩ ⟨[]⟩)
def q112 : OpdF := kC (.func (.func (nat_lit 157)) ⟨[]⟩ ⟨[]⟩)
def q113 : OpdF := kC (.func (.func (nat_lit 158)) ⟨[]⟩ ⟨[]⟩)
def q114 : OpdF := kC (.func (.func (nat_lit 159)) ⟨[]⟩ ⟨[]⟩)
def q115 : OpdF := kC (.func (.func (nat_lit 103)) ⟨[]⟩ ⟨[]⟩)
def q116 : OpdF := kC (.func (.func (nat_lit 160)) ⟨[]⟩ ⟨[]⟩)
def q117 : OpdF := kC (.func (.func (nat_lit 161)) ⟨[]⟩ ⟨[]⟩)
noncomputable def k93 : KFun := ⟨[rTmp (nat_lit 6) g6, rTmp (nat_lit 7) g7], (kSeq (oSet (xTurn (tnBox g2)) p5 
(oSet (xMove q109) p6 
(oSet (xMove q0) p7 
oEnd))) (kSeq (oSet (xMove g1) p15 
(oSet (xCall q110 [g15]) p16 
(oSet (xMove g16) p8 
oEnd))) (kSeq (oSet (xTurn (tnMkMap (.many (nat_lit 32) .u8))) p17 
(oSet (xMove g17) p9 
oEnd)) (kSeq (oSet (xLook (lkLoadN (nat_lit 2) g5)) p18 
(oSet (xTurn (tnBuildSlice q26 [((nat_lit 0), (nat_lit 2), g18)] (nat_lit 1))) p19 
(oSet (xMove g19) p10 
oEnd))) (kSeq (oSet (xTurn (tnAlloc q6)) p11 
oEnd) (kSeq (kSeq (oSet (xMove g8) p20 
(oSet (xCall q111 [g20, q43]) p21 
(oSet (xMove q16) p22 
oEnd))) (kBlock (nat_lit 0) (kLoop (kSeq (oSet (xLook (lkBin .lss g22 g21)) p23 
oEnd) (kSeq (kCond g23 kSkip (kExit (nat_lit 0))) (kSeq (kBlock (nat_lit 1) (kSeq (oSet (xMove g22) p24 
(oSet (xMove g24) p12 
oEnd)) (kSeq (oSet (xMove g8) p25 
(oSet (xCall q112 [g25]) p26 
(oSet (xTurn (tnAlloc q6)) p13 
(oDo (xTurn (tnStore (nat_lit 32) g13 g26)) 
oEnd)))) (kSeq (oSet (xMove g8) p27 
(oSet (xCall q113 [g27, q16, q39]) p28 
(oSet (xMove g8) p29 
(oSet (xCall q113 [g29, q16, q39]) p30 
(oSet (xLook (lkBuild q26 [((nat_lit 0), (nat_lit 1), g28), ((nat_lit 1), (nat_lit 1), g30)])) p31 
(oSet (xTurn (tnAlloc q26)) p14 
(oDo (xTurn (tnStore (nat_lit 2) g14 g31)) 
oEnd))))))) (kSeq (kSeq (oSet (xMove g8) p32 
(oSet (xCall q114 [g32]) p33 
(oSet (xLook (lkField1 (nat_lit 0) g33)) p34 
(oSet (xLook (lkEq true .int g34 q16)) p35 
(oSet (xMove g35) p36 
(oSetIf (wantF g36) (xMove g12) p37 
(oSetIf (wantF g36) (xLook (lkBin .gtr g37 q16)) p38 
(oSetIf (wantF g36) (xMove g38) p39 
(oSetIf (wantT g39) (xLook (lkLoadN (nat_lit 32) g11)) p40 
(oSetIf (wantT g39) (xLook (lkLoadN (nat_lit 32) g13)) p41 
(oSetIf (wantT g39) (xCall q115 [g40, g41]) p42 
(oSetIf (wantT g39) (xLook (lkBin .geq g42 q16)) p43 
(oSetIf (wantF g36) (xLook (lkPick g39 g43 q0)) p44 
(oSet (xLook (lkPick g36 q2 g44)) p45 
(oSet (xMove g45) p46 
(oSetIf (wantF g46) (xMove g0) p47 
(oSetIf (wantF g46) (xLook (lkLoadN (nat_lit 2) g14)) p48 
(oSetIf (wantF g46) (xCall q27 [g47, g48]) p49 
(oSetIf (wantF g46) (xLook (lkUn .not g49)) p50 
(oSet (xLook (lkPick g46 q2 g50)) p51 
oEnd)))))))))))))))))))) (kCond g51 (kSeq (oSet (xMove q109) p6 
(oSet (xMove q0) p7 
oEnd)) kRet) kSkip)) (kSeq (kDraw 
(dLook (nat_lit 0) [] [] (lkMove g9) p52 
(dLook (nat_lit 1) [] [] (lkLoadN (nat_lit 32) g13) p53 
(dLook (nat_lit 2) [] [] (lkLoadN (nat_lit 2) g14) p54 
(dLook (nat_lit 3) [] [] (lkLoadN (nat_lit 32) g13) p55 
(dTurn (nat_lit 4) [(nat_lit 3)] [] true (xTurn (tnMapUpdate (.many (nat_lit 32) .u8) g52 g53 g54)) noDst 
(dTurn (nat_lit 5) [] [(nat_lit 4)] true (xTurn (tnStore (nat_lit 32) g11 g55)) noDst (dEnd [(nat_lit 52), (nat_lit 53), (nat_lit 54), (nat_lit 55)])))))))) (oSet (xMove g10) p56 
(oSet (xLook (lkLoadN (nat_lit 2) g14)) p57 
(oSet (xTurn (tnBuildSlice q26 [((nat_lit 0), (nat_lit 2), g57)] (nat_lit 1))) p58 
(oSet (xTurn (tnAppend (nat_lit 2) g56 g58)) p59 
(oSet (xMove g59) p10 
oEnd))))))))))) (oSet (xLook (lkBin .add g22 q11)) p60 
(oSet (xMove g60) p22 
oEnd)))))))) (kSeq (oSet (xMove g9) p61 
(oSet (xMove g8) p62 
(oSet (xCall q116 [g62]) p63 
(oSet (xLook (lkField1 (nat_lit 0) g63)) p64 
(oSet (xLook (lkEq false .int g64 q16)) p65 
(oSet (xMove g65) p66 
(oSetIf (wantT g66) (xMove g10) p67 
(oSetIf (wantT g66) (xCall q117 [g67]) p68 
(oSet (xLook (lkPick g66 g68 q0)) p69 
(oSet (xMove g61) p6 
(oSet (xMove g69) p7 
oEnd))))))))))) kRet)))))))⟩
noncomputable def k96 : KFun := ⟨[rTmp (nat_lit 4) g4], (kSeq (oSet (xTurn (tnBox g1)) p3 
(oSet (xMove q0) p4 
oEnd)) (kSeq (kDraw 
(dLook (nat_lit 0) [] [] (lkMove g0) p8 
(dTurn (nat_lit 1) [] [] false (xNil g8) p9 
(dLook (nat_lit 2) [] [] (lkFieldAddr (nat_lit 1) g9) p10 
(dLook (nat_lit 3) [] [] (lkLoad1 g10) p11 
(dLook (nat_lit 4) [] [] (lkLoadN (nat_lit 32) g3) p12 
(dLook (nat_lit 5) [] [] (lkLookup (.many (nat_lit 32) .u8) (.agg ⟨[]⟩) true g11 g12) p13 
(dLook (nat_lit 6) [] [] (lkMove g13) p7 
(dLook (nat_lit 7) [] [] (lkExtract (nat_lit 0) g7) p14 
(dLook (nat_lit 8) [] [] (lkExtract (nat_lit 1) g7) p15 
(dTurn (nat_lit 9) [] [] false (xTurn (tnAlloc [])) p5 
(dTurn (nat_lit 10) [] [] true (xTurn (tnStore (nat_lit 0) g5 g14)) noDst 
(dLook (nat_lit 11) [] [(nat_lit 10)] (lkMove g15) p6 (dEnd [(nat_lit 8), (nat_lit 9), (nat_lit 10), (nat_lit 11), (nat_lit 12), (nat_lit 13), (nat_lit 7), (nat_lit 14), (nat_lit 15), (nat_lit 5), (nat_lit 6)])))))))))))))) (kSeq (oSet (xMove g6) p16 
(oSet (xMove g16) p4 
oEnd)) kRet)))⟩
def q118 : OpdF := kC (.func (.func (nat_lit 162)) ⟨[]⟩ ⟨[]⟩)
noncomputable def k97 : KFun := ⟨[rTmp (nat_lit 4) g4], (kSeq (oSet (xTurn (tnBox g1)) p3 
(oSet (xMove q16) p4 
oEnd)) (kSeq (oSet (xMove g0) p5 
(oSet (xNil g5) p6 
(oSet (xLook (lkFieldAddr (nat_lit 0) g6)) p7 
(oSet (xLook (lkLoad1 g7)) p8 
(oSet (xLook (lkMkFunc (.func (nat_lit 163)) [] [g3])) p9 
(oSet (xCall q118 [g8, g9]) p10 
(oSet (xMove g10) p4 
oEnd))))))) kRet))⟩
noncomputable def k99 : KFun := ⟨[rTmp (nat_lit 2) g2], (kSeq (oSet (xMove q5) p2 
oEnd) (kSeq (oSet (xMove g0) p9 
(oSet (xNil g9) p10 
(oSet (xLook (lkFieldAddr (nat_lit 2) g10)) p11 
(oSet (xLook (lkLoad1 g11)) p12 
(oSet (xCall q18 [g12]) p13 
(oSet (xLook (lkBin .sub g13 q32)) p14 
(oSet (xLook (lkBuild q26 [((nat_lit 0), (nat_lit 1), q32), ((nat_lit 1), (nat_lit 1), g14)])) p15 
(oSet (xTurn (tnBuildSlice q26 [((nat_lit 0), (nat_lit 2), g15)] (nat_lit 1))) p16 
(oSet (xTurn (tnAlloc q56)) p3 
(oDo (xTurn (tnStore (nat_lit 1) g3 g16)) 
oEnd)))))))))) (kSeq (oSet (xLook (lkMkFunc (.func (nat_lit 165)) [] [g3])) p17 
(oSet (xMove g17) p4 
oEnd)) (kSeq (kSeq (oSet (xMove g0) p18 
(oSet (xNil g18) p19 
(oSet (xLook (lkFieldAddr (nat_lit 38) g19)) p20 
(oSet (xLook (lkLoad1 g20)) p21 
(oSet (xTurn (tnRangeMap g21)) p22 
oEnd))))) (kBlock (nat_lit 0) (kLoop (kSeq (oSet (xNextMap g22) p23 
(oSet (xLook (lkExtract (nat_lit 0) g23)) p24 
oEnd)) (kSeq (kCond g24 kSkip (kExit (nat_lit 0))) (kBlock (nat_lit 1) (kSeq (oSet (xLook (lkEntry g22)) p25 
(oSet (xLook (lkExtract (nat_lit 1) g25)) p26 
(oSet (xTurn (tnAlloc q26)) p6 
(oDo (xTurn (tnStore (nat_lit 2) g6 g26)) 
oEnd)))) (oSet (xMove g4) p27 
(oSet (xLook (lkLoadN (nat_lit 2) g6)) p28 
(oSet (xCall g27 [g28]) p29 
oEnd)))))))))) (kSeq (kSeq (oSet (xMove g0) p30 
(oSet (xNil g30) p31 
(oSet (xLook (lkFieldAddr (nat_lit 0) g31)) p32 
(oSet (xLook (lkFieldAddr (nat_lit 0) g32)) p33 
(oSet (xLook (lkLoad1 g33)) p34 
(oSet (xLook (lkLen .sl g34)) p35 
(oSet (xMove q16) p36 
oEnd))))))) (kBlock (nat_lit 2) (kLoop (kSeq (oSet (xLook (lkBin .lss g36 g35)) p37 
oEnd) (kSeq (kCond g37 kSkip (kExit (nat_lit 2))) (kSeq (kBlock (nat_lit 3) (kSeq (oSet (xLook (lkIxSl (nat_lit 35) g34 g36)) p38 
(oSet (xLook (lkLoadN (nat_lit 35) g38)) p39 
(oSet (xTurn (tnAlloc q44)) p8 
(oDo (xTurn (tnStore (nat_lit 35) g8 g39)) 
oEnd)))) (oSet (xMove g4) p40 
(oSet (xLook (lkFieldAddr (nat_lit 0) g8)) p41 
(oSet (xLook (lkLoadN (nat_lit 2) g41)) p42 
(oSet (xCall g40 [g42]) p43 
oEnd)))))) (oSet (xLook (lkBin .add g36 q11)) p44 
(oSet (xMove g44) p36 
oEnd)))))))) (kSeq (oSet (xMove g4) p45 
(oSet (xMove g0) p46 
(oSet (xNil g46) p47 
(oSet (xLook (lkFieldAddr (nat_lit 36) g47)) p48 
(oSet (xLook (lkLoadN (nat_lit 2) g48)) p49 
(oSet (xCall g45 [g49]) p50 
oEnd)))))) (kSeq (oSet (xLook (lkLoad1 g3)) p51 
(oSet (xMove g51) p2 
oEnd)) kRet)))))))⟩
noncomputable def k100 : KFun := ⟨[rTmp (nat_lit 2) g2], (kSeq (oSet (xMove q5) p2 
oEnd) (kSeq (kSeq (oSet (xMove g0) p3 
(oSet (xLook (lkEq false .slice g3 q5)) p4 
oEnd)) (kCond g4 (kSeq (oSet (xMove q5) p2 
oEnd) kRet) kSkip)) (kSeq (oSet (xTurn (tnBuildSlice [] [] (nat_lit 0))) p5 
(oSet (xMove g0) p6 
(oSet (xTurn (tnAppend (nat_lit 1) g5 g6)) p7 
(oSet (xMove g7) p2 
oEnd)))) kRet)))⟩
def q119 : OpdF := kC (.func (.func (nat_lit 72)) ⟨[]⟩ ⟨[]⟩)
noncomputable def k103 : KFun := ⟨[rTmp (nat_lit 4) g4], (kSeq (oSet (xTurn (tnBox g0)) p2 
(oSet (xTurn (tnBox g1)) p3 
(oSet (xMove q16) p4 
oEnd))) (kSeq (kDraw 
(dLook (nat_lit 0) [] [] (lkSliceArr (nat_lit 32) (nat_lit 1) g2 none none none) p5 
(dLook (nat_lit 1) [] [] (lkSliceArr (nat_lit 32) (nat_lit 1) g3 none none none) p6 
(dTurn (nat_lit 2) [] [] true (xCall q119 [g5, g6]) p7 
(dLook (nat_lit 3) [] [(nat_lit 2)] (lkMove g7) p4 (dEnd [(nat_lit 5), (nat_lit 6), (nat_lit 7), (nat_lit 4)])))))) kRet))⟩
noncomputable def k104 : KFun := ⟨[rTmp (nat_lit 2) g2], (kSeq (oSet (xMove q0) p2 
oEnd) (kSeq (oSet (xMove g0) p3 
(oSet (xLook (lkEq false .ptr g3 q4)) p4 
(oSet (xMove g4) p5 
(oSetIf (wantF g5) (xMove g0) p6 
(oSetIf (wantF g5) (xNil g6) p7 
(oSetIf (wantF g5) (xLook (lkFieldAddr (nat_lit 2) g7)) p8 
(oSetIf (wantF g5) (xLook (lkLoad1 g8)) p9 
(oSetIf (wantF g5) (xLook (lkEq false .ptr g9 q4)) p10 
(oSet (xLook (lkPick g5 q2 g10)) p11 
(oSet (xMove g11) p2 
oEnd)))))))))) kRet))⟩
noncomputable def k106d0 : KD := 
(dLook (nat_lit 24) [] [(nat_lit 2)] (lkPick g25 q2 g38) p39 (dEnd [(nat_lit 15), (nat_lit 16), (nat_lit 17), (nat_lit 18), (nat_lit 19), (nat_lit 20), (nat_lit 21), (nat_lit 22), (nat_lit 23), (nat_lit 24), (nat_lit 25), (nat_lit 26), (nat_lit 27), (nat_lit 28), (nat_lit 29), (nat_lit 30), (nat_lit 31), (nat_lit 32), (nat_lit 33), (nat_lit 34), (nat_lit 35), (nat_lit 36), (nat_lit 37), (nat_lit 38), (nat_lit 39)]))
noncomputable def k106d1 : KD := 
(dIf [(nat_lit 2)] (wantF g25) p38 (dLook (nat_lit 23) [] [(nat_lit 2)] (lkPick g28 g37 q0) p38 k106d0) k106d0)
noncomputable def k106d2 : KD := 
(dIf [(nat_lit 2)] (wantT g28) p37 (dLook (nat_lit 22) [] [(nat_lit 2)] (lkBin .leq g30 g36) p37 k106d1) k106d1)
noncomputable def k106d3 : KD := 
(dIf [(nat_lit 2)] (wantT g28) p36 (dLook (nat_lit 21) [] [(nat_lit 2)] (lkLoad1 g35) p36 k106d2) k106d2)
noncomputable def k106d4 : KD := 
(dIf [(nat_lit 2)] (wantT g28) p35 (dLook (nat_lit 20) [] [(nat_lit 2)] (lkFieldAddr (nat_lit 0) g34) p35 k106d3) k106d3)
noncomputable def k106d5 : KD := 
(dIf [(nat_lit 2)] (wantT g28) p34 (dLook (nat_lit 19) [] [(nat_lit 2)] (lkIxSl (nat_lit 2) g31 g33) p34 k106d4) k106d4)
noncomputable def k106d6 : KD := 
(dIf [(nat_lit 2)] (wantT g28) p33 (dLook (nat_lit 18) [] [(nat_lit 2)] (lkBin .sub g32 q11) p33 k106d5) k106d5)
noncomputable def k106d7 : KD := 
(dIf [(nat_lit 2)] (wantT g28) p32 (dLook (nat_lit 17) [] [(nat_lit 2)] (lkMove g3) p32 k106d6) k106d6)
noncomputable def k106d8 : KD := 
(dIf [(nat_lit 2)] (wantT g28) p31 (dLook (nat_lit 16) [] [(nat_lit 2)] (lkMove g0) p31 k106d7) k106d7)
noncomputable def k106d9 : KD := 
(dIf [(nat_lit 2)] (wantT g28) p30 (dLook (nat_lit 15) [] [(nat_lit 2)] (lkLoad1 g29) p30 k106d8) k106d8)
noncomputable def k106d10 : KD := 
(dIf [(nat_lit 2)] (wantT g28) p29 (dLook (nat_lit 14) [] [(nat_lit 2)] (lkFieldAddr (nat_lit 0) g4) p29 k106d9) k106d9)
noncomputable def k106d11 : KD := 
(dIf [(nat_lit 2)] (wantF g25) p28 (dLook (nat_lit 13) [] [(nat_lit 2)] (lkMove g27) p28 k106d10) k106d10)
noncomputable def k106d12 : KD := 
(dIf [(nat_lit 2)] (wantF g25) p27 (dLook (nat_lit 12) [] [(nat_lit 2)] (lkBin .gtr g26 q16) p27 k106d11) k106d11)
noncomputable def k106d13 : KD := 
(dLook (nat_lit 9) [] [(nat_lit 2)] (lkPick g19 q2 g23) p24 
(dLook (nat_lit 10) [] [(nat_lit 2)] (lkMove g24) p25 
(dIf [(nat_lit 2)] (wantF g25) p26 (dLook (nat_lit 11) [] [(nat_lit 2)] (lkMove g3) p26 k106d12) k106d12)))
noncomputable def k106d14 : KD := 
(dIf [(nat_lit 2)] (wantF g19) p23 (dLook (nat_lit 8) [] [(nat_lit 2)] (lkBin .gtr g22 q86) p23 k106d13) k106d13)
noncomputable def k106d15 : KD := 
(dIf [(nat_lit 2)] (wantF g19) p22 (dLook (nat_lit 7) [] [(nat_lit 2)] (lkLen .str g21) p22 k106d14) k106d14)
noncomputable def k106d16 : KD := 
(dIf [(nat_lit 2)] (wantF g19) p21 (dLook (nat_lit 6) [] [(nat_lit 2)] (lkLoad1 g20) p21 k106d15) k106d15)
def q120 : OpdF := kC (.func (.func (nat_lit 169)) ⟨[]⟩ ⟨[]⟩)
noncomputable def k106 : KFun := ⟨[rTmp (nat_lit 2) g2], (kSeq (oSet (xMove q16) p2 
oEnd) (kSeq (kSeq (oSet (xMove g0) p5 
(oSet (xLook (lkLen .sl g5)) p6 
(oSet (xLook (lkBin .gtr g6 q39)) p7 
oEnd))) (kCond g7 (kSeq (oSet (xMove q40) p2 
oEnd) kRet) kSkip)) (kSeq (kSeq (oSet (xMove g0) p8 
(oSet (xLook (lkLen .sl g8)) p9 
(oSet (xMove q16) p10 
oEnd))) (kBlock (nat_lit 0) (kLoop (kSeq (oSet (xLook (lkBin .lss g10 g9)) p11 
oEnd) (kSeq (kCond g11 kSkip (kExit (nat_lit 0))) (kSeq (kBlock (nat_lit 1) (kSeq (oSet (xMove g10) p12 
(oSet (xLook (lkIxSl (nat_lit 2) g8 g10)) p13 
(oSet (xLook (lkLoadN (nat_lit 2) g13)) p14 
(oSet (xTurn (tnAlloc q53)) p4 
(oSet (xMove g12) p3 
(oDo (xTurn (tnStore (nat_lit 2) g4 g14)) 
oEnd)))))) (kSeq (kDraw 
(dLook (nat_lit 0) [] [] (lkFieldAddr (nat_lit 0) g4) p15 
(dLook (nat_lit 1) [] [] (lkLoad1 g15) p16 
(dTurn (nat_lit 2) [] [] true (xCall q120 [g16]) p17 
(dLook (nat_lit 3) [] [(nat_lit 2)] (lkUn .not g17) p18 
(dLook (nat_lit 4) [] [(nat_lit 2)] (lkMove g18) p19 
(dIf [(nat_lit 2)] (wantF g19) p20 (dLook (nat_lit 5) [] [(nat_lit 2)] (lkFieldAddr (nat_lit 1) g4) p20 k106d16) k106d16))))))) (kCond g39 (kSeq (oSet (xMove q32) p2 
oEnd) kRet) kSkip)))) (oSet (xLook (lkBin .add g10 q11)) p40 
(oSet (xMove g40) p10 
oEnd)))))))) (kSeq (oSet (xMove q16) p2 
oEnd) kRet))))⟩
def q121 : OpdF := kC (.func (.func (nat_lit 106)) ⟨[]⟩ ⟨[]⟩)
def q122 : OpdF := kC (.func (.func (nat_lit 170)) ⟨[]⟩ ⟨[]⟩)
def q123 : List Value := [(.int .i64 (.ofNat (nat_lit 0)))]
noncomputable def k111 : KFun := ⟨[rCellN (nat_lit 2) g2 (nat_lit 32), rTmp (nat_lit 3) g3, rTmp (nat_lit 4) g4], (kSeq (oSet (xTurn (tnAlloc q6)) p2 
(oSet (xMove q5) p3 
(oSet (xMove q16) p4 
oEnd))) (kSeq (kSeq (oSet (xMove g0) p11 
(oSet (xCall q121 [g11]) p12 
(oSet (xMove g12) p5 
oEnd))) (kSeq (oSet (xMove g5) p13 
(oSet (xLook (lkEq true .int g13 q16)) p14 
oEnd)) (kCond g14 (kSeq (oSet (xLook (lkBuild q6 [])) p15 
(oSet (xMove g5) p16 
(oDo (xTurn (tnStore (nat_lit 32) g2 g15)) 
(oSet (xMove q5) p3 
(oSet (xMove g16) p4 
oEnd))))) kRet) kSkip))) (kSeq (oSet (xTurn (tnAlloc q56)) p6 
oEnd) (kSeq (oSet (xTurn (tnAlloc q6)) p7 
oEnd) (kSeq (oSet (xMove g0) p17 
(oSet (xCall q122 [g17]) p18 
(oSet (xTurn (tnAlloc q123)) p8 
(oSet (xTurn (tnAlloc q56)) p9 
(oDo (xTurn (tnStore (nat_lit 1) g8 q16)) 
(oDo (xTurn (tnStore (nat_lit 1) g9 g18)) 
oEnd)))))) (kSeq (oSet (xLook (lkMkFunc (.func (nat_lit 171)) [] [g9, g6, g7, g8])) p19 
(oSet (xMove g19) p10 
oEnd)) (kSeq (kBlock (nat_lit 0) (kLoop (kSeq (kSeq (oSet (xMove g10) p20 
(oSet (xCall g20 []) p21 
oEnd)) (kCond g21 kSkip (kExit (nat_lit 0)))) (kBlock (nat_lit 1) kSkip)))) (kSeq (kDraw 
(dLook (nat_lit 0) [] [] (lkLoadN (nat_lit 32) g7) p22 
(dLook (nat_lit 1) [] [] (lkLoad1 g6) p23 
(dTurn (nat_lit 2) [(nat_lit 1)] [] true (xTurn (tnStore (nat_lit 32) g2 g22)) noDst 
(dLook (nat_lit 3) [] [(nat_lit 2)] (lkMove g23) p3 
(dLook (nat_lit 4) [] [(nat_lit 2)] (lkMove q16) p4 (dEnd [(nat_lit 22), (nat_lit 23), (nat_lit 3), (nat_lit 4)]))))))) kRet))))))))⟩
def q124 : OpdF := kC (.func (.func (nat_lit 28)) ⟨[]⟩ ⟨[]⟩)
noncomputable def k115 : KFun := ⟨[rTmp (nat_lit 2) g2], (kSeq (oSet (xMove q0) p2 
oEnd) (kSeq (oSet (xMove g0) p6 
(oSet (xLook (lkBuild q6 [])) p7 
(oSet (xCall q124 [g6, g7]) p8 
(oSet (xMove g8) p5 
(oSet (xLook (lkExtract (nat_lit 0) g5)) p9 
(oSet (xLook (lkExtract (nat_lit 1) g5)) p10 
(oSet (xMove g9) p3 
(oSet (xMove g10) p4 
oEnd)))))))) (kSeq (oSet (xMove g4) p11 
(oSet (xLook (lkEq true .int g11 q11)) p12 
(oSet (xMove g12) p2 
oEnd))) kRet)))⟩
def q125 : OpdF := kC (.string ⟨⟨[0]⟩⟩)
noncomputable def k116 : KFun := ⟨[rCellN (nat_lit 2) g2 (nat_lit 2)], (kSeq (oSet (xTurn (tnAlloc q53)) p2 
oEnd) (kSeq (oSet (xMove g0) p3 
(oSet (xMove g0) p4 
(oSet (xLook (lkBin .add g4 q125)) p5 
(oSet (xLook (lkBuild q53 [((nat_lit 0), (nat_lit 1), g3), ((nat_lit 1), (nat_lit 1), g5)])) p6 
(oDo (xTurn (tnStore (nat_lit 2) g2 g6)) 
oEnd))))) kRet))⟩
noncomputable def k117 : KFun := ⟨[], (kSeq (oSet (xTurn (tnBox g0)) p3 
oEnd) (kSeq (oSet (xLook (lkLoad1 g1)) p7 
(oSet (xLook (lkLoadN (nat_lit 32) g3)) p8 
(oSet (xLook (lkLookup (.many (nat_lit 32) .u8) (.agg ⟨[]⟩) true g7 g8)) p9 
(oSet (xMove g9) p6 
(oSet (xLook (lkExtract (nat_lit 0) g6)) p10 
(oSet (xLook (lkExtract (nat_lit 1) g6)) p11 
(oSet (xTurn (tnAlloc [])) p4 
(oDo (xTurn (tnStore (nat_lit 0) g4 g10)) 
(oSet (xMove g11) p5 
oEnd))))))))) (kSeq (oSet (xMove g5) p12 
(oSet (xLook (lkUn .not g12)) p13 
oEnd)) (kCond g13 (kSeq (oSet (xLook (lkLoad1 g1)) p14 
(oSet (xLook (lkLoadN (nat_lit 32) g3)) p15 
(oSet (xLook (lkBuild [] [])) p16 
(oDo (xTurn (tnMapUpdate (.many (nat_lit 32) .u8) g14 g15 g16)) 
oEnd)))) (oSet (xLook (lkLoad1 g2)) p17 
(oSet (xLook (lkLoadN (nat_lit 32) g3)) p18 
(oSet (xTurn (tnBuildSlice q6 [((nat_lit 0), (nat_lit 32), g18)] (nat_lit 1))) p19 
(oSet (xTurn (tnAppend (nat_lit 32) g17 g19)) p20 
(oDo (xTurn (tnStore (nat_lit 1) g2 g20)) 
oEnd)))))) kSkip))))⟩
def q126 : OpdF := kC .nilFunc
noncomputable def k118 : KFun := ⟨[rTmp (nat_lit 6) g6], (kSeq (oSet (xTurn (tnBox g0)) p3 
(oSet (xTurn (tnBox g1)) p4 
(oSet (xTurn (tnBox g2)) p5 
(oSet (xMove q126) p6 
oEnd)))) (kSeq (oSet (xLook (lkMkFunc (.func (nat_lit 175)) [] [g3, g4, g5])) p7 
(oSet (xMove g7) p6 
oEnd)) kRet))⟩
def q127 : List Value := [(.string ⟨⟨[]⟩⟩)]
def q128 : List Value := [(.string ⟨⟨[]⟩⟩), (.string ⟨⟨[]⟩⟩), (.bool false)]
def q129 : OpdF := kC (.func (.func (nat_lit 178)) ⟨[]⟩ ⟨[]⟩)
def q130 : OpdF := kC (.func (.func (nat_lit 179)) ⟨[]⟩ ⟨[]⟩)
def q131 : OpdF := kC (.func (.func (nat_lit 180)) ⟨[]⟩ ⟨[]⟩)
noncomputable def k119 : KFun := ⟨[rTmp (nat_lit 4) g4, rTmp (nat_lit 5) g5], (kSeq (oSet (xMove q5) p4 
(oSet (xMove q16) p5 
oEnd)) (kSeq (kSeq (oSet (xMove g0) p12 
(oSet (xCall q121 [g12]) p13 
(oSet (xMove g13) p6 
oEnd))) (kSeq (oSet (xMove g6) p14 
(oSet (xLook (lkEq true .int g14 q16)) p15 
oEnd)) (kCond g15 (kSeq (oSet (xMove g6) p16 
(oSet (xMove q5) p4 
(oSet (xMove g16) p5 
oEnd))) kRet) kSkip))) (kSeq (oSet (xTurn (tnMkMap (.one .str))) p17 
(oSet (xLook (lkBuild q55 [((nat_lit 0), (nat_lit 1), g17)])) p18 
(oSet (xTurn (tnAlloc q55)) p7 
(oDo (xTurn (tnStore (nat_lit 1) g7 g18)) 
oEnd)))) (kSeq (kSeq (oSet (xMove g0) p19 
(oSet (xLook (lkLen .sl g19)) p20 
(oSet (xMove q16) p21 
oEnd))) (kBlock (nat_lit 0) (kLoop (kSeq (oSet (xLook (lkBin .lss g21 g20)) p22 
oEnd) (kSeq (kCond g22 kSkip (kExit (nat_lit 0))) (kSeq (kBlock (nat_lit 1) (kSeq (oSet (xLook (lkIxSl (nat_lit 2) g19 g21)) p23 
(oSet (xLook (lkLoadN (nat_lit 2) g23)) p24 
(oSet (xTurn (tnAlloc q53)) p9 
(oDo (xTurn (tnStore (nat_lit 2) g9 g24)) 
oEnd)))) (oSet (xLook (lkFieldAddr (nat_lit 0) g7)) p25 
(oSet (xLook (lkLoad1 g25)) p26 
(oSet (xLook (lkFieldAddr (nat_lit 0) g9)) p27 
(oSet (xLook (lkLoad1 g27)) p28 
(oSet (xLook (lkFieldAddr (nat_lit 1) g9)) p29 
(oSet (xLook (lkLoad1 g29)) p30 
(oSet (xLook (lkBuild q127 [((nat_lit 0), (nat_lit 1), g30)])) p31 
(oDo (xTurn (tnMapUpdate (.one .str) g26 g28 g31)) 
oEnd)))))))))) (oSet (xLook (lkBin .add g21 q11)) p32 
(oSet (xMove g32) p21 
oEnd)))))))) (kSeq (kSeq (oSet (xMove g1) p33 
(oSet (xLook (lkLen .sl g33)) p34 
(oSet (xMove q16) p35 
oEnd))) (kBlock (nat_lit 2) (kLoop (kSeq (oSet (xLook (lkBin .lss g35 g34)) p36 
oEnd) (kSeq (kCond g36 kSkip (kExit (nat_lit 2))) (kSeq (kBlock (nat_lit 3) (kSeq (oSet (xLook (lkIxSl (nat_lit 3) g33 g35)) p37 
(oSet (xLook (lkLoadN (nat_lit 3) g37)) p38 
(oSet (xTurn (tnAlloc q128)) p11 
(oDo (xTurn (tnStore (nat_lit 3) g11 g38)) 
oEnd)))) (kSeq (kSeq (oSet (xLook (lkLoadN (nat_lit 3) g11)) p39 
(oSet (xCall q129 [g39]) p40 
(oSet (xLook (lkUn .not g40)) p41 
oEnd))) (kCond g41 (kSeq (oSet (xMove q5) p4 
(oSet (xMove q32) p5 
oEnd)) kRet) kSkip)) (oSet (xLook (lkLoadN (nat_lit 1) g7)) p42 
(oSet (xLook (lkLoadN (nat_lit 3) g11)) p43 
(oSet (xCall q130 [g42, g43]) p44 
oEnd)))))) (oSet (xLook (lkBin .add g35 q11)) p45 
(oSet (xMove g45) p35 
oEnd)))))))) (kSeq (kSeq (oSet (xLook (lkFieldAddr (nat_lit 0) g7)) p46 
(oSet (xLook (lkLoad1 g46)) p47 
(oSet (xLook (lkLen .map g47)) p48 
(oSet (xLook (lkBin .gtr g48 q39)) p49 
oEnd)))) (kCond g49 (kSeq (oSet (xMove q5) p4 
(oSet (xMove q40) p5 
oEnd)) kRet) kSkip)) (kSeq (oSet (xLook (lkLoadN (nat_lit 1) g7)) p50 
(oSet (xCall q131 [g50]) p51 
(oSet (xMove g51) p4 
(oSet (xMove q16) p5 
oEnd)))) kRet)))))))⟩
noncomputable def k120 : KFun := ⟨[], (oSet (xTurn (tnBox g0)) p1 
oEnd)⟩
def q132 : OpdF := kC (.func (.func (nat_lit 203)) ⟨[]⟩ ⟨[]⟩)
def q133 : OpdF := kC (.func (.func (nat_lit 204)) ⟨[]⟩ ⟨[]⟩)
noncomputable def k134 : KFun := ⟨[rTmp (nat_lit 2) g2], (kSeq (oSet (xMove q16) p2 
oEnd) (kSeq (kCond q0 (kSeq (oSet (xMove g0) p3 
(oSet (xLook (lkIntTo .u32 g3)) p4 
(oSet (xCall q132 [g4]) p5 
(oSet (xMove g5) p2 
oEnd)))) kRet) kSkip) (kSeq (oSet (xMove g0) p6 
(oSet (xCall q133 [g6]) p7 
(oSet (xMove g7) p2 
oEnd))) kRet)))⟩
def q134 : List Value := [(.int .u32 (.ofNat (nat_lit 0))), (.int .u32 (.ofNat (nat_lit 0))), (.int .u32 (.ofNat (nat_lit 0))), (.int .u32 (.ofNat (nat_lit 0))), (.int .u32 (.ofNat (nat_lit 0))), (.int .u32 (.ofNat (nat_lit 0))), (.int .u32 (.ofNat (nat_lit 0))), (.int .u32 (.ofNat (nat_lit 0)))]
def q135 : OpdF := kC (.int .u32 (.ofNat (nat_lit 1779033703)))
def q136 : OpdF := kC (.int .u32 (.ofNat (nat_lit 3144134277)))
def q137 : OpdF := kC (.int .u32 (.ofNat (nat_lit 1013904242)))
def q138 : OpdF := kC (.int .u32 (.ofNat (nat_lit 2773480762)))
def q139 : OpdF := kC (.int .u32 (.ofNat (nat_lit 1359893119)))
def q140 : OpdF := kC (.int .u32 (.ofNat (nat_lit 2600822924)))
def q141 : OpdF := kC (.int .u32 (.ofNat (nat_lit 528734635)))
def q142 : OpdF := kC (.int .u32 (.ofNat (nat_lit 1541459225)))
noncomputable def k138 : KFun := ⟨[rCellN (nat_lit 0) g0 (nat_lit 8)], (kSeq (oSet (xTurn (tnAlloc q134)) p0 
oEnd) (kSeq (oSet (xLook (lkBuild q134 [((nat_lit 0), (nat_lit 1), q135), ((nat_lit 1), (nat_lit 1), q136), ((nat_lit 2), (nat_lit 1), q137), ((nat_lit 3), (nat_lit 1), q138), ((nat_lit 4), (nat_lit 1), q139), ((nat_lit 5), (nat_lit 1), q140), ((nat_lit 6), (nat_lit 1), q141), ((nat_lit 7), (nat_lit 1), q142)])) p1 
(oDo (xTurn (tnStore (nat_lit 8) g0 g1)) 
oEnd)) kRet))⟩
noncomputable def k139 : KFun := ⟨[rTmp (nat_lit 2) g2], (kSeq (oSet (xMove q0) p2 
oEnd) (kSeq (oSet (xMove g0) p3 
(oSet (xLook (lkEq false .ptr g3 q4)) p4 
(oSet (xMove g4) p5 
(oSetIf (wantF g5) (xMove g0) p6 
(oSetIf (wantF g5) (xNil g6) p7 
(oSetIf (wantF g5) (xLook (lkFieldAddr (nat_lit 0) g7)) p8 
(oSetIf (wantF g5) (xLook (lkLoad1 g8)) p9 
(oSetIf (wantF g5) (xLook (lkUn .not g9)) p10 
(oSet (xLook (lkPick g5 q2 g10)) p11 
(oSet (xMove g11) p2 
oEnd)))))))))) kRet))⟩
def q143 : List Value := [(.int .u32 (.ofNat (nat_lit 0))), (.int .u32 (.ofNat (nat_lit 0))), (.int .u32 (.ofNat (nat_lit 0))), (.int .u32 (.ofNat (nat_lit 0))), (.int .u32 (.ofNat (nat_lit 0))), (.int .u32 (.ofNat (nat_lit 0))), (.int .u32 (.ofNat (nat_lit 0))), (.int .u32 (.ofNat (nat_lit 0))), (.int .u32 (.ofNat (nat_lit 0))), (.int .u32 (.ofNat (nat_lit 0))), (.int .u32 (.ofNat (nat_lit 0))), (.int .u32 (.ofNat (nat_lit 0))), (.int .u32 (.ofNat (nat_lit 0))), (.int .u32 (.ofNat (nat_lit 0))), (.int .u32 (.ofNat (nat_lit 0))), (.int .u32 (.ofNat (nat_lit 0))), (.int .u32 (.ofNat (nat_lit 0))), (.int .u32 (.ofNat (nat_lit 0))), (.int .u32 (.ofNat (nat_lit 0))), (.int .u32 (.ofNat (nat_lit 0))), (.int .u32 (.ofNat (nat_lit 0))), (.int .u32 (.ofNat (nat_lit 0))), (.int .u32 (.ofNat (nat_lit 0))), (.int .u32 (.ofNat (nat_lit 0))), (.int .u32 (.ofNat (nat_lit 0))), (.int .u32 (.ofNat (nat_lit 0))), (.int .u32 (.ofNat (nat_lit 0))), (.int .u32 (.ofNat (nat_lit 0))), (.int .u32 (.ofNat (nat_lit 0))), (.int .u32 (.ofNat (nat_lit 0))), (.int .u32 (.ofNat (nat_lit 0))), (.int .u32 (.ofNat (nat_lit 0))), (.int .u32 (.ofNat (nat_lit 0))), (.int .u32 (.ofNat (nat_lit 0))), (.int .u32 (.ofNat (nat_lit 0))), (.int .u32 (.ofNat (nat_lit 0))), (.int .u32 (.ofNat (nat_lit 0))), (.int .u32 (.ofNat (nat_lit 0))), (.int .u32 (.ofNat (nat_lit 0))), (.int .u32 (.ofNat (nat_lit 0))), (.int .u32 (.ofNat (nat_lit 0))), (.int .u32 (.ofNat (nat_lit 0))), (.int .u32 (.ofNat (nat_lit 0))), (.int .u32 (.ofNat (nat_lit 0))), (.int .u32 (.ofNat (nat_lit 0))), (.int .u32 (.ofNat (nat_lit 0))), (.int .u32 (.ofNat (nat_lit 0))), (.int .u32 (.ofNat (nat_lit 0))), (.int .u32 (.ofNat (nat_lit 0))), (.int .u32 (.ofNat (nat_lit 0))), (.int .u32 (.ofNat (nat_lit 0))), (.int .u32 (.ofNat (nat_lit 0))), (.int .u32 (.ofNat (nat_lit 0))), (.int .u32 (.ofNat (nat_lit 0))), (.int .u32 (.ofNat (nat_lit 0))), (.int .u32 (.ofNat (nat_lit 0))), (.int .u32 (.ofNat (nat_lit 0))), (.int .u32 (.ofNat (nat_lit 0))), (.int .u32 (.ofNat (nat_lit 0))), (.int .u32 (.ofNat (nat_lit 0))), (.int .u32 (.ofNat (nat_lit 0))), (.int .u32 (.ofNat (nat_lit 0))), (.int .u32 (.ofNat (nat_lit 0))), (.int .u32 (.ofNat (nat_lit 0)))]
def q144 : OpdF := kC (.int .i64 (.ofNat (nat_lit 16)))
def q145 : OpdF := kC (.int .u64 (.ofNat (nat_lit 16)))
def q146 : OpdF := kC (.int .u64 (.ofNat (nat_lit 24)))
def q147 : OpdF := kC (.int .i64 (.ofNat (nat_lit 15)))
def q148 : OpdF := kC (.int .u64 (.ofNat (nat_lit 10)))
def q149 : OpdF := kC (.func (.func (nat_lit 205)) ⟨[]⟩ ⟨[]⟩)
def q150 : OpdF := kC (.int .i64 (.ofNat (nat_lit 19)))
def q151 : OpdF := kC (.int .i64 (.ofNat (nat_lit 17)))
def q152 : OpdF := kC (.int .i64 (.ofNat (nat_lit 7)))
def q153 : OpdF := kC (.int .u64 (.ofNat (nat_lit 3)))
def q154 : OpdF := kC (.int .i64 (.ofNat (nat_lit 18)))
def q155 : OpdF := kC (.func (.func (nat_lit 206)) ⟨[]⟩ ⟨[]⟩)
def q156 : OpdF := kC (.int .i64 (.ofNat (nat_lit 25)))
def q157 : OpdF := kC (.int .i64 (.ofNat (nat_lit 13)))
def q158 : OpdF := kC (.int .i64 (.ofNat (nat_lit 22)))
noncomputable def k140 : KFun := ⟨[rCellN (nat_lit 4) g4 (nat_lit 8)], (kSeq (oSet (xTurn (tnBox g0)) p2 
(oSet (xTurn (tnAlloc q134)) p4 
oEnd)) (kSeq (oSet (xTurn (tnAlloc q143)) p5 
oEnd) (kSeq (kSeq (oSet (xMove q16) p23 
oEnd) (kBlock (nat_lit 0) (kLoop (kSeq (oSet (xLook (lkBin .lss g23 q144)) p24 
oEnd) (kSeq (kCond g24 kSkip (kExit (nat_lit 0))) (kSeq (kBlock (nat_lit 1) (kSeq (oSet (xMove g23) p25 
(oSet (xMove g25) p6 
oEnd)) (kDraw 
(dLook (nat_lit 0) [] [] (lkMove g6) p26 
(dLook (nat_lit 1) [] [] (lkMove g1) p27 
(dLook (nat_lit 2) [] [] (lkMove g6) p28 
(dLook (nat_lit 3) [] [] (lkBin .mul q19 g28) p29 
(dLook (nat_lit 4) [] [] (lkIxSl (nat_lit 1) g27 g29) p30 
(dLook (nat_lit 5) [] [] (lkLoad1 g30) p31 
(dLook (nat_lit 6) [] [] (lkIntTo .u32 g31) p32 
(dLook (nat_lit 7) [] [] (lkBin .shl g32 q146) p33 
(dLook (nat_lit 8) [] [] (lkMove g1) p34 
(dLook (nat_lit 9) [] [] (lkMove g6) p35 
(dLook (nat_lit 10) [] [] (lkBin .mul q19 g35) p36 
(dLook (nat_lit 11) [] [] (lkBin .add g36 q11) p37 
(dLook (nat_lit 12) [] [] (lkIxSl (nat_lit 1) g34 g37) p38 
(dLook (nat_lit 13) [] [] (lkLoad1 g38) p39 
(dLook (nat_lit 14) [] [] (lkIntTo .u32 g39) p40 
(dLook (nat_lit 15) [] [] (lkBin .shl g40 q145) p41 
(dLook (nat_lit 16) [] [] (lkBin .or g33 g41) p42 
(dLook (nat_lit 17) [] [] (lkMove g1) p43 
(dLook (nat_lit 18) [] [] (lkMove g6) p44 
(dLook (nat_lit 19) [] [] (lkBin .mul q19 g44) p45 
(dLook (nat_lit 20) [] [] (lkBin .add g45 q32) p46 
(dLook (nat_lit 21) [] [] (lkIxSl (nat_lit 1) g43 g46) p47 
(dLook (nat_lit 22) [] [] (lkLoad1 g47) p48 
(dLook (nat_lit 23) [] [] (lkIntTo .u32 g48) p49 
(dLook (nat_lit 24) [] [] (lkBin .shl g49 q91) p50 
(dLook (nat_lit 25) [] [] (lkBin .or g42 g50) p51 
(dLook (nat_lit 26) [] [] (lkMove g1) p52 
(dLook (nat_lit 27) [] [] (lkMove g6) p53 
(dLook (nat_lit 28) [] [] (lkBin .mul q19 g53) p54 
(dLook (nat_lit 29) [] [] (lkBin .add g54 q40) p55 
(dLook (nat_lit 30) [] [] (lkIxSl (nat_lit 1) g52 g55) p56 
(dLook (nat_lit 31) [] [] (lkLoad1 g56) p57 
(dLook (nat_lit 32) [] [] (lkIntTo .u32 g57) p58 
(dLook (nat_lit 33) [] [] (lkBin .or g51 g58) p59 
(dLook (nat_lit 34) [] [] (lkIxArr (nat_lit 64) (nat_lit 1) g5 g26) p60 
(dTurn (nat_lit 35) [] [] true (xTurn (tnStore (nat_lit 1) g60 g59)) noDst (dEnd [(nat_lit 26), (nat_lit 27), (nat_lit 28), (nat_lit 29), (nat_lit 30), (nat_lit 31), (nat_lit 32), (nat_lit 33), (nat_lit 34), (nat_lit 35), (nat_lit 36), (nat_lit 37), (nat_lit 38), (nat_lit 39), (nat_lit 40), (nat_lit 41), (nat_lit 42), (nat_lit 43), (nat_lit 44), (nat_lit 45), (nat_lit 46), (nat_lit 47), (nat_lit 48), (nat_lit 49), (nat_lit 50), (nat_lit 51), (nat_lit 52), (nat_lit 53), (nat_lit 54), (nat_lit 55), (nat_lit 56), (nat_lit 57), (nat_lit 58), (nat_lit 59), (nat_lit 60)])))))))))))))))))))))))))))))))))))))))) (oSet (xLook (lkBin .add g23 q11)) p61 
(oSet (xMove g61) p23 
oEnd)))))))) (kSeq (kSeq (oSet (xMove q144) p7 
oEnd) (kBlock (nat_lit 2) (kLoop (kSeq (kSeq (oSet (xMove g7) p62 
(oSet (xLook (lkBin .lss g62 q86)) p63 
oEnd)) (kCond g63 kSkip (kExit (nat_lit 2)))) (kSeq (kBlock (nat_lit 3) (kSeq (kDraw 
(dLook (nat_lit 0) [] [] (lkMove g7) p66 
(dLook (nat_lit 1) [] [] (lkBin .sub g66 q147) p67 
(dLook (nat_lit 2) [] [] (lkIxArr (nat_lit 64) (nat_lit 1) g5 g67) p68 
(dLook (nat_lit 3) [] [] (lkLoad1 g68) p69 
(dLook (nat_lit 4) [] [] (lkMove g7) p70 
(dLook (nat_lit 5) [] [] (lkBin .sub g70 q32) p71 
(dLook (nat_lit 6) [] [] (lkIxArr (nat_lit 64) (nat_lit 1) g5 g71) p72 
(dLook (nat_lit 7) [] [] (lkLoad1 g72) p73 
(dLook (nat_lit 8) [] [] (lkMove g69) p8 
(dLook (nat_lit 9) [] [] (lkMove g73) p9 (dEnd [(nat_lit 66), (nat_lit 67), (nat_lit 68), (nat_lit 69), (nat_lit 70), (nat_lit 71), (nat_lit 72), (nat_lit 73), (nat_lit 8), (nat_lit 9)])))))))))))) (kDraw 
(dLook (nat_lit 0) [] [] (lkMove g7) p74 
(dLook (nat_lit 1) [] [] (lkMove g7) p75 
(dLook (nat_lit 2) [] [] (lkBin .sub g75 q144) p76 
(dLook (nat_lit 3) [] [] (lkIxArr (nat_lit 64) (nat_lit 1) g5 g76) p77 
(dLook (nat_lit 4) [] [] (lkLoad1 g77) p78 
(dLook (nat_lit 5) [] [] (lkMove g8) p79 
(dTurn (nat_lit 6) [(nat_lit 4)] [] true (xCall q149 [g79, q152]) p80 
(dLook (nat_lit 7) [] [] (lkMove g8) p81 
(dTurn (nat_lit 8) [(nat_lit 4)] [(nat_lit 6)] true (xCall q149 [g81, q154]) p82 
(dLook (nat_lit 9) [] [(nat_lit 6), (nat_lit 8)] (lkBin .xor g80 g82) p83 
(dLook (nat_lit 10) [] [] (lkMove g8) p84 
(dLook (nat_lit 11) [] [] (lkBin .shr g84 q153) p85 
(dLook (nat_lit 12) [] [(nat_lit 6), (nat_lit 8)] (lkBin .xor g83 g85) p86 
(dLook (nat_lit 13) [] [(nat_lit 6), (nat_lit 8)] (lkBin .add g78 g86) p87 
(dLook (nat_lit 14) [] [] (lkMove g7) p88 
(dLook (nat_lit 15) [] [] (lkBin .sub g88 q152) p89 
(dLook (nat_lit 16) [] [] (lkIxArr (nat_lit 64) (nat_lit 1) g5 g89) p90 
(dLook (nat_lit 17) [(nat_lit 6), (nat_lit 8)] [] (lkLoad1 g90) p91 
(dLook (nat_lit 18) [] [(nat_lit 6), (nat_lit 8)] (lkBin .add g87 g91) p92 
(dLook (nat_lit 19) [] [] (lkMove g9) p93 
(dTurn (nat_lit 20) [(nat_lit 4), (nat_lit 17)] [(nat_lit 6), (nat_lit 8)] true (xCall q149 [g93, q151]) p94 
(dLook (nat_lit 21) [] [] (lkMove g9) p95 
(dTurn (nat_lit 22) [(nat_lit 4), (nat_lit 17)] [(nat_lit 6), (nat_lit 8), (nat_lit 20)] true (xCall q149 [g95, q150]) p96 
(dLook (nat_lit 23) [] [(nat_lit 6), (nat_lit 8), (nat_lit 20), (nat_lit 22)] (lkBin .xor g94 g96) p97 
(dLook (nat_lit 24) [] [] (lkMove g9) p98 
(dLook (nat_lit 25) [] [] (lkBin .shr g98 q148) p99 
(dLook (nat_lit 26) [] [(nat_lit 6), (nat_lit 8), (nat_lit 20), (nat_lit 22)] (lkBin .xor g97 g99) p100 
(dLook (nat_lit 27) [] [(nat_lit 6), (nat_lit 8), (nat_lit 20), (nat_lit 22)] (lkBin .add g92 g100) p101 
(dLook (nat_lit 28) [] [(nat_lit 6), (nat_lit 8), (nat_lit 20), (nat_lit 22)] (lkIxArr (nat_lit 64) (nat_lit 1) g5 g74) p102 
(dTurn (nat_lit 29) [] [(nat_lit 6), (nat_lit 8), (nat_lit 20), (nat_lit 22)] true (xTurn (tnStore (nat_lit 1) g102 g101)) noDst (dEnd [(nat_lit 74), (nat_lit 75), (nat_lit 76), (nat_lit 77), (nat_lit 78), (nat_lit 79), (nat_lit 80), (nat_lit 81), (nat_lit 82), (nat_lit 83), (nat_lit 84), (nat_lit 85), (nat_lit 86), (nat_lit 87), (nat_lit 88), (nat_lit 89), (nat_lit 90), (nat_lit 91), (nat_lit 92), (nat_lit 93), (nat_lit 94), (nat_lit 95), (nat_lit 96), (nat_lit 97), (nat_lit 98), (nat_lit 99), (nat_lit 100), (nat_lit 101), (nat_lit 102)])))))))))))))))))))))))))))))))))) (oSet (xMove g7) p64 
(oSet (xLook (lkBin .add g64 q11)) p65 
(oSet (xMove g65) p7 
oEnd)))))))) (kSeq (oSet (xLook (lkLoadN (nat_lit 8) g2)) p103 
(oSet (xTurn (tnAlloc q134)) p10 
(oDo (xTurn (tnStore (nat_lit 8) g10 g103)) 
oEnd))) (kSeq (kSeq (oSet (xCall q155 []) p104 
(oSet (xMove q16) p105 
oEnd)) (kBlock (nat_lit 4) (kLoop (kSeq (oSet (xLook (lkBin .lss g105 q86)) p106 
oEnd) (kSeq (kCond g106 kSkip (kExit (nat_lit 4))) (kSeq (kBlock (nat_lit 5) (kSeq (oSet (xMove g105) p107 
(oSet (xLook (lkIxVal1 (nat_lit 64) g104 g105)) p108 
(oSet (xMove g107) p11 
(oSet (xMove g108) p12 
oEnd)))) (kSeq (kDraw 
(dLook (nat_lit 0) [] [] (lkIxArr (nat_lit 8) (nat_lit 1) g10 q16) p109 
(dLook (nat_lit 1) [] [] (lkLoad1 g109) p110 
(dLook (nat_lit 2) [] [] (lkIxArr (nat_lit 8) (nat_lit 1) g10 q11) p111 
(dLook (nat_lit 3) [] [] (lkLoad1 g111) p112 
(dLook (nat_lit 4) [] [] (lkIxArr (nat_lit 8) (nat_lit 1) g10 q32) p113 
(dLook (nat_lit 5) [] [] (lkLoad1 g113) p114 
(dLook (nat_lit 6) [] [] (lkIxArr (nat_lit 8) (nat_lit 1) g10 q19) p115 
(dLook (nat_lit 7) [] [] (lkLoad1 g115) p116 
(dLook (nat_lit 8) [] [] (lkIxArr (nat_lit 8) (nat_lit 1) g10 q76) p117 
(dLook (nat_lit 9) [] [] (lkLoad1 g117) p118 
(dLook (nat_lit 10) [] [] (lkIxArr (nat_lit 8) (nat_lit 1) g10 q25) p119 
(dLook (nat_lit 11) [] [] (lkLoad1 g119) p120 
(dLook (nat_lit 12) [] [] (lkIxArr (nat_lit 8) (nat_lit 1) g10 q152) p121 
(dLook (nat_lit 13) [] [] (lkLoad1 g121) p122 
(dLook (nat_lit 14) [] [] (lkMove g110) p13 
(dLook (nat_lit 15) [] [] (lkMove g112) p14 
(dLook (nat_lit 16) [] [] (lkMove g114) p15 
(dLook (nat_lit 17) [] [] (lkMove g116) p16 
(dLook (nat_lit 18) [] [] (lkMove g118) p17 
(dLook (nat_lit 19) [] [] (lkMove g120) p18 
(dLook (nat_lit 20) [] [] (lkMove g122) p19 (dEnd [(nat_lit 109), (nat_lit 110), (nat_lit 111), (nat_lit 112), (nat_lit 113), (nat_lit 114), (nat_lit 115), (nat_lit 116), (nat_lit 117), (nat_lit 118), (nat_lit 119), (nat_lit 120), (nat_lit 121), (nat_lit 122), (nat_lit 13), (nat_lit 14), (nat_lit 15), (nat_lit 16), (nat_lit 17), (nat_lit 18), (nat_lit 19)]))))))))))))))))))))))) (kSeq (kDraw 
(dLook (nat_lit 0) [] [] (lkMove g19) p123 
(dLook (nat_lit 1) [] [] (lkMove g16) p124 
(dTurn (nat_lit 2) [] [] true (xCall q149 [g124, q25]) p125 
(dLook (nat_lit 3) [] [] (lkMove g16) p126 
(dTurn (nat_lit 4) [] [(nat_lit 2)] true (xCall q149 [g126, q28]) p127 
(dLook (nat_lit 5) [] [(nat_lit 2), (nat_lit 4)] (lkBin .xor g125 g127) p128 
(dLook (nat_lit 6) [] [] (lkMove g16) p129 
(dTurn (nat_lit 7) [] [(nat_lit 2), (nat_lit 4)] true (xCall q149 [g129, q156]) p130 
(dLook (nat_lit 8) [] [(nat_lit 2), (nat_lit 4), (nat_lit 7)] (lkBin .xor g128 g130) p131 
(dLook (nat_lit 9) [] [(nat_lit 2), (nat_lit 4), (nat_lit 7)] (lkBin .add g123 g131) p132 
(dLook (nat_lit 10) [] [] (lkMove g16) p133 
(dLook (nat_lit 11) [] [] (lkMove g17) p134 
(dLook (nat_lit 12) [] [] (lkBin .and g133 g134) p135 
(dLook (nat_lit 13) [] [] (lkMove g16) p136 
(dLook (nat_lit 14) [] [] (lkUn .xor g136) p137 
(dLook (nat_lit 15) [] [] (lkMove g18) p138 
(dLook (nat_lit 16) [] [] (lkBin .and g137 g138) p139 
(dLook (nat_lit 17) [] [] (lkBin .xor g135 g139) p140 
(dLook (nat_lit 18) [] [(nat_lit 2), (nat_lit 4), (nat_lit 7)] (lkBin .add g132 g140) p141 
(dLook (nat_lit 19) [] [] (lkMove g12) p142 
(dLook (nat_lit 20) [] [(nat_lit 2), (nat_lit 4), (nat_lit 7)] (lkBin .add g141 g142) p143 
(dLook (nat_lit 21) [] [] (lkMove g11) p144 
(dLook (nat_lit 22) [] [] (lkIxArr (nat_lit 64) (nat_lit 1) g5 g144) p145 
(dLook (nat_lit 23) [(nat_lit 2), (nat_lit 4), (nat_lit 7)] [] (lkLoad1 g145) p146 
(dLook (nat_lit 24) [] [(nat_lit 2), (nat_lit 4), (nat_lit 7)] (lkBin .add g143 g146) p147 
(dLook (nat_lit 25) [] [(nat_lit 2), (nat_lit 4), (nat_lit 7)] (lkMove g147) p20 (dEnd [(nat_lit 123), (nat_lit 124), (nat_lit 125), (nat_lit 126), (nat_lit 127), (nat_lit 128), (nat_lit 129), (nat_lit 130), (nat_lit 131), (nat_lit 132), (nat_lit 133), (nat_lit 134), (nat_lit 135), (nat_lit 136), (nat_lit 137), (nat_lit 138), (nat_lit 139), (nat_lit 140), (nat_lit 141), (nat_lit 142), (nat_lit 143), (nat_lit 144), (nat_lit 145), (nat_lit 146), (nat_lit 147), (nat_lit 20)])))))))))))))))))))))))))))) (kSeq (oSet (xMove g13) p148 
(oSet (xCall q149 [g148, q32]) p149 
(oSet (xMove g13) p150 
(oSet (xCall q149 [g150, q157]) p151 
(oSet (xLook (lkBin .xor g149 g151)) p152 
(oSet (xMove g13) p153 
(oSet (xCall q149 [g153, q158]) p154 
(oSet (xLook (lkBin .xor g152 g154)) p155 
(oSet (xMove g13) p156 
(oSet (xMove g14) p157 
(oSet (xLook (lkBin .and g156 g157)) p158 
(oSet (xMove g13) p159 
(oSet (xMove g15) p160 
(oSet (xLook (lkBin .and g159 g160)) p161 
(oSet (xLook (lkBin .xor g158 g161)) p162 
(oSet (xMove g14) p163 
(oSet (xMove g15) p164 
(oSet (xLook (lkBin .and g163 g164)) p165 
(oSet (xLook (lkBin .xor g162 g165)) p166 
(oSet (xLook (lkBin .add g155 g166)) p167 
(oSet (xMove g167) p21 
oEnd))))))))))))))))))))) (oSet (xMove g20) p168 
(oSet (xMove g21) p169 
(oSet (xLook (lkBin .add g168 g169)) p170 
(oSet (xMove g13) p171 
(oSet (xMove g14) p172 
(oSet (xMove g15) p173 
(oSet (xLook (lkIxArr (nat_lit 8) (nat_lit 1) g10 q40)) p174 
(oSet (xLook (lkLoad1 g174)) p175 
(oSet (xMove g20) p176 
(oSet (xLook (lkBin .add g175 g176)) p177 
(oSet (xMove g16) p178 
(oSet (xMove g17) p179 
(oSet (xMove g18) p180 
(oSet (xLook (lkBuild q134 [((nat_lit 0), (nat_lit 1), g170), ((nat_lit 1), (nat_lit 1), g171), ((nat_lit 2), (nat_lit 1), g172), ((nat_lit 3), (nat_lit 1), g173), ((nat_lit 4), (nat_lit 1), g177), ((nat_lit 5), (nat_lit 1), g178), ((nat_lit 6), (nat_lit 1), g179), ((nat_lit 7), (nat_lit 1), g180)])) p181 
(oDo (xTurn (tnStore (nat_lit 8) g10 g181)) 
oEnd)))))))))))))))))))) (oSet (xLook (lkBin .add g105 q11)) p182 
(oSet (xMove g182) p105 
oEnd)))))))) (kSeq (kSeq (oSet (xMove q16) p183 
oEnd) (kBlock (nat_lit 6) (kLoop (kSeq (oSet (xLook (lkBin .lss g183 q20)) p184 
oEnd) (kSeq (kCond g184 kSkip (kExit (nat_lit 6))) (kSeq (kBlock (nat_lit 7) (kSeq (oSet (xMove g183) p185 
(oSet (xMove g185) p22 
oEnd)) (kDraw 
(dLook (nat_lit 0) [] [] (lkMove g22) p186 
(dLook (nat_lit 1) [] [] (lkIxArr (nat_lit 8) (nat_lit 1) g2 g186) p187 
(dLook (nat_lit 2) [] [] (lkLoad1 g187) p188 
(dLook (nat_lit 3) [] [] (lkMove g22) p189 
(dLook (nat_lit 4) [] [] (lkIxArr (nat_lit 8) (nat_lit 1) g10 g189) p190 
(dLook (nat_lit 5) [] [] (lkLoad1 g190) p191 
(dLook (nat_lit 6) [] [] (lkBin .add g188 g191) p192 
(dLook (nat_lit 7) [] [] (lkIxArr (nat_lit 8) (nat_lit 1) g2 g186) p193 
(dTurn (nat_lit 8) [] [] true (xTurn (tnStore (nat_lit 1) g193 g192)) noDst (dEnd [(nat_lit 186), (nat_lit 187), (nat_lit 188), (nat_lit 189), (nat_lit 190), (nat_lit 191), (nat_lit 192), (nat_lit 193)]))))))))))))) (oSet (xLook (lkBin .add g183 q11)) p194 
(oSet (xMove g194) p183 
oEnd)))))))) (kSeq (oSet (xLook (lkLoadN (nat_lit 8) g2)) p195 
(oDo (xTurn (tnStore (nat_lit 8) g4 g195)) 
oEnd)) kRet))))))))⟩
def q159 : List Value := [(.bool false), (.slice none (nat_lit 0) (nat_lit 0)), (.int .i64 (.ofNat (nat_lit 0))), (.int .i64 (.ofNat (nat_lit 0)))]
noncomputable def k141 : KFun := ⟨[rTmp (nat_lit 0) g0], (kSeq (oSet (xMove q4) p0 
oEnd) (kSeq (oSet (xLook (lkBuild q159 [((nat_lit 0), (nat_lit 1), q2)])) p1 
(oSet (xLook (lkBuild q159 [((nat_lit 0), (nat_lit 4), g1)])) p2 
(oSet (xTurn (tnBox g2)) p3 
(oSet (xMove g3) p0 
oEnd)))) kRet))⟩
def q160 : OpdF := kC (.func (.func (nat_lit 207)) ⟨[]⟩ ⟨[]⟩)
def q161 : OpdF := kC (.int .i64 (.ofNat (nat_lit 127)))
def q162 : OpdF := kC (.int .i64 (.ofNat (nat_lit 128)))
def q163 : OpdF := kC (.int .u64 (.ofNat (nat_lit 7)))
noncomputable def k142 : KFun := ⟨[], (kSeq (kSeq (oSet (xMove g0) p4 
(oSet (xCall q160 [g4]) p5 
oEnd)) (kCond g5 kRet kSkip)) (kSeq (kSeq (oSet (xMove g1) p6 
(oSet (xLook (lkBin .lss g6 q16)) p7 
oEnd)) (kCond g7 (kSeq (oSet (xMove g0) p8 
(oSet (xNil g8) p9 
(oSet (xLook (lkFieldAddr (nat_lit 0) g9)) p10 
(oSet (xLook (lkFieldAddr (nat_lit 2) g10)) p11 
(oSet (xLook (lkFieldAddr (nat_lit 0) g11)) p12 
(oDo (xTurn (tnStore (nat_lit 1) g12 q76)) 
oEnd)))))) kRet) kSkip)) (kSeq (kBlock (nat_lit 0) (kLoop (kSeq (kSeq (oSet (xMove g1) p13 
(oSet (xLook (lkBin .gtr g13 q161)) p14 
oEnd)) (kCond g14 kSkip (kExit (nat_lit 0)))) (kSeq (kBlock (nat_lit 1) (oSet (xMove g0) p17 
(oSet (xMove g0) p18 
(oSet (xNil g18) p19 
(oSet (xLook (lkFieldAddr (nat_lit 0) g19)) p20 
(oSet (xLook (lkFieldAddr (nat_lit 1) g20)) p21 
(oSet (xLook (lkLoad1 g21)) p22 
(oSet (xMove g1) p23 
(oSet (xLook (lkBin .and g23 q161)) p24 
(oSet (xLook (lkBin .or g24 q162)) p25 
(oSet (xLook (lkIntTo .u8 g25)) p26 
(oSet (xTurn (tnBuildSlice q107 [((nat_lit 0), (nat_lit 1), g26)] (nat_lit 1))) p27 
(oSet (xTurn (tnAppend (nat_lit 1) g22 g27)) p28 
(oSet (xNil g17) p29 
(oSet (xLook (lkFieldAddr (nat_lit 0) g29)) p30 
(oSet (xLook (lkFieldAddr (nat_lit 1) g30)) p31 
(oDo (xTurn (tnStore (nat_lit 1) g31 g28)) 
oEnd))))))))))))))))) (oSet (xMove g1) p15 
(oSet (xLook (lkBin .shr g15 q163)) p16 
(oSet (xMove g16) p1 
oEnd))))))) (oSet (xMove g0) p32 
(oSet (xMove g0) p33 
(oSet (xNil g33) p34 
(oSet (xLook (lkFieldAddr (nat_lit 0) g34)) p35 
(oSet (xLook (lkFieldAddr (nat_lit 1) g35)) p36 
(oSet (xLook (lkLoad1 g36)) p37 
(oSet (xMove g1) p38 
(oSet (xLook (lkIntTo .u8 g38)) p39 
(oSet (xTurn (tnBuildSlice q107 [((nat_lit 0), (nat_lit 1), g39)] (nat_lit 1))) p40 
(oSet (xTurn (tnAppend (nat_lit 1) g37 g40)) p41 
(oSet (xNil g32) p42 
(oSet (xLook (lkFieldAddr (nat_lit 0) g42)) p43 
(oSet (xLook (lkFieldAddr (nat_lit 1) g43)) p44 
(oDo (xTurn (tnStore (nat_lit 1) g44 g41)) 
oEnd)))))))))))))))))⟩
noncomputable def k143 : KFun := ⟨[], (kSeq (oSet (xTurn (tnBox g1)) p3 
oEnd) (kSeq (oSet (xMove g0) p4 
(oSet (xCall q160 [g4]) p5 
(oSet (xLook (lkUn .not g5)) p6 
oEnd))) (kCond g6 (kDraw 
(dLook (nat_lit 0) [] [] (lkMove g0) p7 
(dLook (nat_lit 1) [] [] (lkMove g0) p8 
(dTurn (nat_lit 2) [] [] false (xNil g8) p9 
(dLook (nat_lit 3) [] [] (lkFieldAddr (nat_lit 0) g9) p10 
(dLook (nat_lit 4) [] [] (lkFieldAddr (nat_lit 1) g10) p11 
(dLook (nat_lit 5) [] [] (lkLoad1 g11) p12 
(dLook (nat_lit 6) [] [] (lkSliceArr (nat_lit 32) (nat_lit 1) g3 none none none) p13 
(dTurn (nat_lit 7) [] [] true (xTurn (tnAppend (nat_lit 1) g12 g13)) p14 
(dTurn (nat_lit 8) [] [(nat_lit 7)] false (xNil g7) p15 
(dLook (nat_lit 9) [] [(nat_lit 7)] (lkFieldAddr (nat_lit 0) g15) p16 
(dLook (nat_lit 10) [] [(nat_lit 7)] (lkFieldAddr (nat_lit 1) g16) p17 
(dTurn (nat_lit 11) [] [(nat_lit 7)] true (xTurn (tnStore (nat_lit 1) g17 g14)) noDst (dEnd [(nat_lit 7), (nat_lit 8), (nat_lit 9), (nat_lit 10), (nat_lit 11), (nat_lit 12), (nat_lit 13), (nat_lit 14), (nat_lit 15), (nat_lit 16), (nat_lit 17)])))))))))))))) kSkip)))⟩
noncomputable def k144 : KFun := ⟨[rTmp (nat_lit 2) g2, rTmp (nat_lit 3) g3], (kSeq (oSet (xMove q5) p2 
(oSet (xMove q16) p3 
oEnd)) (kSeq (kBlock (nat_lit 0) (kSeq (oSet (xMove g0) p5 
(oSet (xCall q160 [g5]) p6 
(oSet (xMove g6) p4 
oEnd))) (kCond g4 (kSeq (oSet (xMove q5) p2 
(oSet (xMove q11) p3 
oEnd)) kRet) (kSeq (oSet (xMove g0) p8 
(oSet (xNil g8) p9 
(oSet (xLook (lkFieldAddr (nat_lit 0) g9)) p10 
(oSet (xLook (lkFieldAddr (nat_lit 2) g10)) p11 
(oSet (xLook (lkFieldAddr (nat_lit 0) g11)) p12 
(oSet (xLook (lkLoad1 g12)) p13 
(oSet (xLook (lkEq true .int g13 q16)) p14 
(oSet (xMove g14) p7 
oEnd)))))))) (kCond g7 (kSeq (kDraw 
(dLook (nat_lit 0) [] [] (lkMove g0) p15 
(dTurn (nat_lit 1) [] [] false (xNil g15) p16 
(dLook (nat_lit 2) [] [] (lkFieldAddr (nat_lit 0) g16) p17 
(dLook (nat_lit 3) [] [] (lkFieldAddr (nat_lit 2) g17) p18 
(dLook (nat_lit 4) [] [] (lkFieldAddr (nat_lit 0) g18) p19 
(dLook (nat_lit 5) [] [] (lkLoad1 g19) p20 
(dLook (nat_lit 6) [] [] (lkMove q5) p2 
(dLook (nat_lit 7) [] [] (lkMove g20) p3 (dEnd [(nat_lit 15), (nat_lit 16), (nat_lit 17), (nat_lit 18), (nat_lit 19), (nat_lit 20), (nat_lit 2), (nat_lit 3)])))))))))) kRet) kSkip))))) (kSeq (oSet (xTurn (tnBuildSlice [] [] (nat_lit 0))) p21 
(oSet (xMove g0) p22 
(oSet (xNil g22) p23 
(oSet (xLook (lkFieldAddr (nat_lit 0) g23)) p24 
(oSet (xLook (lkFieldAddr (nat_lit 1) g24)) p25 
(oSet (xLook (lkLoad1 g25)) p26 
(oSet (xTurn (tnAppend (nat_lit 1) g21 g26)) p27 
(oSet (xMove g27) p2 
(oSet (xMove q16) p3 
oEnd))))))))) kRet)))⟩
def q164 : OpdF := kC (.func (.func (nat_lit 164)) ⟨[]⟩ ⟨[]⟩)
def q165 : OpdF := kC (.func (.func (nat_lit 208)) ⟨[]⟩ ⟨[]⟩)
def q166 : OpdF := kC (.func (.func (nat_lit 210)) ⟨[]⟩ ⟨[]⟩)
noncomputable def k145 : KFun := ⟨[rTmp (nat_lit 4) g4, rTmp (nat_lit 5) g5, rTmp (nat_lit 6) g6], (kSeq (oSet (xTurn (tnBox g1)) p3 
(oSet (xMove q16) p4 
(oSet (xMove q5) p5 
(oSet (xMove q16) p6 
oEnd)))) (kSeq (kSeq (oSet (xMove g0) p9 
(oSet (xCall q164 [g9]) p10 
(oSet (xLook (lkEq true .int g10 q16)) p11 
(oSet (xMove g11) p12 
(oSetIf (wantF g12) (xLook (lkLoad1 g3)) p13 
(oSetIf (wantF g12) (xLook (lkBin .lss g13 q11)) p14 
(oSet (xLook (lkPick g12 q2 g14)) p15 
oEnd))))))) (kCond g15 (kSeq (oSet (xMove q16) p4 
(oSet (xMove q5) p5 
(oSet (xMove q32) p6 
oEnd))) kRet) kSkip)) (kSeq (oSet (xMove g0) p16 
(oSet (xLook (lkMkFunc (.func (nat_lit 209)) [] [g3])) p17 
(oSet (xCall q165 [g16, g17]) p18 
(oSet (xMove g18) p7 
oEnd)))) (kSeq (kSeq (oSet (xMove g7) p19 
(oSet (xLook (lkBin .lss g19 q16)) p20 
oEnd)) (kCond g20 (kSeq (oSet (xMove q16) p4 
(oSet (xMove q5) p5 
(oSet (xMove q20) p6 
oEnd))) kRet) kSkip)) (kSeq (oSet (xMove g0) p21 
(oSet (xMove g7) p22 
(oSet (xLook (lkIxSl (nat_lit 2) g21 g22)) p23 
(oSet (xLook (lkFieldAddr (nat_lit 0) g23)) p24 
(oSet (xLook (lkLoad1 g24)) p25 
(oSet (xMove g25) p8 
oEnd)))))) (kSeq (oSet (xMove g8) p26 
(oSet (xMove g0) p27 
(oSet (xMove g7) p28 
(oSet (xMove g8) p29 
(oSet (xLook (lkLoad1 g3)) p30 
(oSet (xCall q166 [g27, g28, g29, g30]) p31 
(oSet (xMove g26) p4 
(oSet (xMove g31) p5 
(oSet (xMove q16) p6 
oEnd))))))))) kRet))))))⟩
noncomputable def k150 : KFun := ⟨[rTmp (nat_lit 4) g4], (kSeq (oSet (xMove q16) p4 
oEnd) (kSeq (kBlock (nat_lit 0) (kSeq (oSet (xMove g0) p6 
(oSet (xCall q101 [g6]) p7 
(oSet (xMove g7) p5 
oEnd))) (kCond g5 (kSeq (oSet (xMove q11) p4 
oEnd) kRet) (kSeq (oSet (xMove g0) p9 
(oSet (xNil g9) p10 
(oSet (xLook (lkFieldAddr (nat_lit 0) g10)) p11 
(oSet (xLook (lkFieldAddr (nat_lit 2) g11)) p12 
(oSet (xLook (lkLoad1 g12)) p13 
(oSet (xMove g13) p8 
oEnd)))))) (kCond g8 (kSeq (oSet (xMove q82) p4 
oEnd) kRet) (kSeq (oSet (xMove g1) p15 
(oSet (xLook (lkBin .lss g15 q16)) p16 
(oSet (xMove g16) p17 
(oSetIf (wantF g17) (xMove g1) p18 
(oSetIf (wantF g17) (xMove g0) p19 
(oSetIf (wantF g17) (xNil g19) p20 
(oSetIf (wantF g17) (xLook (lkFieldAddr (nat_lit 4) g20)) p21 
(oSetIf (wantF g17) (xLook (lkLoad1 g21)) p22 
(oSetIf (wantF g17) (xLook (lkBin .geq g18 g22)) p23 
(oSet (xLook (lkPick g17 q2 g23)) p24 
(oSet (xMove g24) p14 
oEnd))))))))))) (kCond g14 (kSeq (oSet (xMove q76) p4 
oEnd) kRet) kSkip))))))) (kSeq (oSet (xMove q16) p4 
oEnd) kRet)))⟩
noncomputable def k151 : KFun := ⟨[rTmp (nat_lit 2) g2], (kSeq (oSet (xMove q0) p2 
oEnd) (kSeq (oSet (xMove g0) p3 
(oSet (xLook (lkEq false .ptr g3 q4)) p4 
(oSet (xMove g4) p5 
(oSetIf (wantF g5) (xMove g0) p6 
(oSetIf (wantF g5) (xNil g6) p7 
(oSetIf (wantF g5) (xLook (lkFieldAddr (nat_lit 3) g7)) p8 
(oSetIf (wantF g5) (xLook (lkLoad1 g8)) p9 
(oSetIf (wantF g5) (xLook (lkUn .not g9)) p10 
(oSet (xLook (lkPick g5 q2 g10)) p11 
(oSet (xMove g11) p2 
oEnd)))))))))) kRet))⟩
def q167 : OpdF := kC (.func (.func (nat_lit 218)) ⟨[]⟩ ⟨[]⟩)
def q168 : List Value := [(.pointer none)]
noncomputable def k152 : KFun := ⟨[rTmp (nat_lit 2) g2, rTmp (nat_lit 3) g3, rTmp (nat_lit 4) g4], (kSeq (oSet (xMove q5) p2 
(oSet (xMove q0) p3 
(oSet (xMove q16) p4 
oEnd))) (kSeq (kSeq (oSet (xMove g0) p15 
(oSet (xCall q17 [g15, q16]) p16 
(oSet (xMove g16) p14 
(oSet (xLook (lkExtract (nat_lit 0) g14)) p17 
(oSet (xLook (lkExtract (nat_lit 1) g14)) p18 
(oSet (xMove g17) p5 
(oSet (xMove g18) p6 
oEnd))))))) (kSeq (oSet (xMove g6) p19 
(oSet (xLook (lkEq false .int g19 q11)) p20 
oEnd)) (kCond g20 (kSeq (oSet (xMove g6) p21 
(oSet (xMove q5) p2 
(oSet (xMove q0) p3 
(oSet (xMove g21) p4 
oEnd)))) kRet) kSkip))) (kSeq (kSeq (oSet (xMove g0) p22 
(oSet (xCall q18 [g22]) p23 
(oSet (xLook (lkBin .lss g23 q32)) p24 
oEnd))) (kCond g24 (kSeq (oSet (xMove q5) p2 
(oSet (xMove q0) p3 
(oSet (xMove q20) p4 
oEnd))) kRet) kSkip)) (kSeq (oSet (xMove q0) p7 
oEnd) (kSeq (oSet (xMove q5) p8 
oEnd) (kSeq (kSeq (oSet (xMove q16) p25 
oEnd) (kBlock (nat_lit 0) (kLoop (kSeq (oSet (xLook (lkBin .lss g25 q32)) p26 
oEnd) (kSeq (kCond g26 kSkip (kExit (nat_lit 0))) (kSeq (kBlock (nat_lit 1) (kSeq (oSet (xMove g25) p27 
(oSet (xMove g27) p9 
oEnd)) (kSeq (oSet (xMove g0) p29 
(oSet (xMove g9) p30 
(oSet (xCall q17 [g29, g30]) p31 
(oSet (xMove g31) p28 
(oSet (xLook (lkExtract (nat_lit 0) g28)) p32 
(oSet (xLook (lkExtract (nat_lit 1) g28)) p33 
(oSet (xMove g32) p10 
(oSet (xMove g33) p11 
oEnd)))))))) (kSeq (kSeq (oSet (xMove g11) p34 
(oSet (xLook (lkEq true .int g34 q16)) p35 
oEnd)) (kCond g35 (kSeq (oSet (xMove g11) p36 
(oSet (xMove q5) p2 
(oSet (xMove q0) p3 
(oSet (xMove g36) p4 
oEnd)))) kRet) kSkip)) (kSeq (oSet (xMove g7) p37 
(oSet (xMove g37) p38 
(oSetIf (wantF g38) (xMove g10) p39 
(oSetIf (wantF g38) (xTurn (tnMkSlice q107 q86 q86)) p40 
(oSetIf (wantF g38) (xCall q108 [g39, g40]) p41 
(oSet (xLook (lkPick g38 q2 g41)) p42 
(oSet (xMove g42) p7 
oEnd))))))) (kSeq (oSet (xMove g10) p44 
(oSet (xCall q167 [g44]) p45 
(oSet (xMove g45) p43 
(oSet (xLook (lkExtract (nat_lit 0) g43)) p46 
(oSet (xLook (lkExtract (nat_lit 1) g43)) p47 
(oSet (xTurn (tnAlloc q24)) p12 
(oDo (xTurn (tnStore (nat_lit 35) g12 g46)) 
(oSet (xMove g47) p13 
oEnd)))))))) (kSeq (oSet (xMove g13) p48 
oEnd) (kCond g48 (oSet (xMove g8) p49 
(oSet (xTurn (tnBuildSlice q168 [((nat_lit 0), (nat_lit 1), g12)] (nat_lit 1))) p50 
(oSet (xTurn (tnAppend (nat_lit 1) g49 g50)) p51 
(oSet (xMove g51) p8 
oEnd)))) (oSet (xMove g8) p52 
(oSet (xTurn (tnBuildSlice q168 [((nat_lit 0), (nat_lit 1), q4)] (nat_lit 1))) p53 
(oSet (xTurn (tnAppend (nat_lit 1) g52 g53)) p54 
(oSet (xMove g54) p8 
oEnd)))))))))))) (oSet (xLook (lkBin .add g25 q11)) p55 
(oSet (xMove g55) p25 
oEnd)))))))) (kSeq (oSet (xMove g8) p56 
(oSet (xMove g7) p57 
(oSet (xMove g56) p2 
(oSet (xMove g57) p3 
(oSet (xMove q16) p4 
oEnd))))) kRet)))))))⟩
noncomputable def k153d0 : KD := 
(dLook (nat_lit 19) [] [] (lkPick g15 g31 q0) p32 (dEnd [(nat_lit 13), (nat_lit 14), (nat_lit 15), (nat_lit 16), (nat_lit 17), (nat_lit 18), (nat_lit 19), (nat_lit 20), (nat_lit 21), (nat_lit 22), (nat_lit 23), (nat_lit 24), (nat_lit 25), (nat_lit 26), (nat_lit 27), (nat_lit 28), (nat_lit 29), (nat_lit 30), (nat_lit 31), (nat_lit 32)]))
noncomputable def k153d1 : KD := 
(dIf [] (wantT g15) p31 (dLook (nat_lit 18) [] [] (lkPick g18 q2 g30) p31 k153d0) k153d0)
noncomputable def k153d2 : KD := 
(dIf [] (wantF g18) p30 (dLook (nat_lit 17) [] [] (lkBin .gtr g22 g29) p30 k153d1) k153d1)
noncomputable def k153d3 : KD := 
(dIf [] (wantF g18) p29 (dLook (nat_lit 16) [] [] (lkLoad1 g28) p29 k153d2) k153d2)
noncomputable def k153d4 : KD := 
(dIf [] (wantF g18) p28 (dLook (nat_lit 15) [] [] (lkFieldAddr (nat_lit 0) g27) p28 k153d3) k153d3)
noncomputable def k153d5 : KD := 
(dIf [] (wantF g18) p27 (dTurn (nat_lit 14) [] [] false (xNil g26) p27 k153d4) k153d4)
noncomputable def k153d6 : KD := 
(dIf [] (wantF g18) p26 (dLook (nat_lit 13) [] [] (lkLoad1 g25) p26 k153d5) k153d5)
noncomputable def k153d7 : KD := 
(dIf [] (wantF g18) p25 (dLook (nat_lit 12) [] [] (lkIxSl (nat_lit 1) g23 g24) p25 k153d6) k153d6)
noncomputable def k153d8 : KD := 
(dIf [] (wantF g18) p24 (dLook (nat_lit 11) [] [] (lkMove g3) p24 k153d7) k153d7)
noncomputable def k153d9 : KD := 
(dIf [] (wantF g18) p23 (dLook (nat_lit 10) [] [] (lkMove g0) p23 k153d8) k153d8)
noncomputable def k153d10 : KD := 
(dIf [] (wantF g18) p22 (dLook (nat_lit 9) [] [] (lkLoad1 g21) p22 k153d9) k153d9)
noncomputable def k153d11 : KD := 
(dIf [] (wantF g18) p21 (dLook (nat_lit 8) [] [] (lkFieldAddr (nat_lit 0) g20) p21 k153d10) k153d10)
noncomputable def k153d12 : KD := 
(dIf [] (wantF g18) p20 (dTurn (nat_lit 7) [] [] false (xNil g19) p20 k153d11) k153d11)
noncomputable def k153d13 : KD := 
(dIf [] (wantF g18) p19 (dLook (nat_lit 6) [] [] (lkMove g5) p19 k153d12) k153d12)
noncomputable def k153d14 : KD := 
(dIf [] (wantT g15) p18 (dLook (nat_lit 5) [] [] (lkMove g17) p18 k153d13) k153d13)
noncomputable def k153d15 : KD := 
(dIf [] (wantT g15) p17 (dLook (nat_lit 4) [] [] (lkBin .lss g16 q16) p17 k153d14) k153d14)
noncomputable def k153 : KFun := ⟨[rTmp (nat_lit 2) g2], (kSeq (oSet (xMove q16) p2 
oEnd) (kSeq (oSet (xMove q78) p3 
oEnd) (kSeq (kSeq (oSet (xMove g0) p6 
(oSet (xLook (lkLen .sl g6)) p7 
(oSet (xMove q16) p8 
oEnd))) (kBlock (nat_lit 0) (kLoop (kSeq (oSet (xLook (lkBin .lss g8 g7)) p9 
oEnd) (kSeq (kCond g9 kSkip (kExit (nat_lit 0))) (kSeq (kBlock (nat_lit 1) (kSeq (oSet (xMove g8) p10 
(oSet (xLook (lkIxSl (nat_lit 1) g6 g8)) p11 
(oSet (xLook (lkLoad1 g11)) p12 
(oSet (xMove g10) p4 
(oSet (xMove g12) p5 
oEnd))))) (kSeq (kDraw 
(dLook (nat_lit 0) [] [] (lkMove g5) p13 
(dLook (nat_lit 1) [] [] (lkEq true .ptr g13 q4) p14 
(dLook (nat_lit 2) [] [] (lkMove g14) p15 
(dIf [] (wantT g15) p16 (dLook (nat_lit 3) [] [] (lkMove g3) p16 k153d15) k153d15))))) (kCond g32 (oSet (xMove g4) p33 
(oSet (xMove g33) p3 
oEnd)) kSkip)))) (oSet (xLook (lkBin .add g8 q11)) p34 
(oSet (xMove g34) p8 
oEnd)))))))) (kSeq (oSet (xMove g3) p35 
(oSet (xMove g35) p2 
oEnd)) kRet))))⟩
noncomputable def k154 : KFun := ⟨[rTmp (nat_lit 4) g4], (kSeq (oSet (xMove q0) p4 
oEnd) (kSeq (oSet (xMove g0) p5 
(oSet (xLook (lkBytesTo g5)) p6 
(oSet (xMove g1) p7 
(oSet (xLook (lkBytesTo g7)) p8 
(oSet (xLook (lkEq false .str g6 g8)) p9 
(oSet (xMove g9) p4 
oEnd)))))) kRet))⟩
def q169 : List Value := [(.bool false), (.slice none (nat_lit 0) (nat_lit 0)), (.int .i64 (.ofNat (nat_lit 0))), (.int .i64 (.ofNat (nat_lit 0))), (.int .i64 (.ofNat (nat_lit 0)))]
noncomputable def k155 : KFun := ⟨[rTmp (nat_lit 2) g2], (kSeq (oSet (xMove q4) p2 
oEnd) (kSeq (oSet (xTurn (tnBuildSlice [] [] (nat_lit 0))) p3 
(oSet (xMove g0) p4 
(oSet (xTurn (tnAppend (nat_lit 1) g3 g4)) p5 
(oSet (xLook (lkBuild q159 [((nat_lit 0), (nat_lit 1), q2), ((nat_lit 1), (nat_lit 1), g5)])) p6 
(oSet (xLook (lkBuild q169 [((nat_lit 0), (nat_lit 4), g6)])) p7 
(oSet (xTurn (tnBox g7)) p8 
(oSet (xMove g8) p2 
oEnd))))))) kRet))⟩
def q170 : OpdF := kC (.func (.func (nat_lit 219)) ⟨[]⟩ ⟨[]⟩)
noncomputable def k156 : KFun := ⟨[rTmp (nat_lit 4) g4], (kSeq (oSet (xTurn (tnBox g0)) p2 
(oSet (xTurn (tnBox g1)) p3 
(oSet (xMove q16) p4 
oEnd))) (kSeq (oSet (xTurn (tnAlloc q123)) p5 
(oDo (xTurn (tnStore (nat_lit 1) g5 q16)) 
oEnd)) (kSeq (kSeq (oSet (xLook (lkLoad1 g2)) p6 
(oSet (xLook (lkMkFunc (.func (nat_lit 220)) [] [g2, g3, g5])) p7 
(oSet (xCall q170 [g6, g7]) p8 
(oSet (xLook (lkUn .not g8)) p9 
oEnd)))) (kCond g9 (kSeq (oSet (xMove q16) p4 
oEnd) kRet) kSkip)) (kSeq (oSet (xLook (lkLoad1 g5)) p10 
(oSet (xMove g10) p4 
oEnd)) kRet))))⟩
noncomputable def k157 : KFun := ⟨[rCellN (nat_lit 2) g2 (nat_lit 32)], (kSeq (oSet (xTurn (tnBox g0)) p1 
(oSet (xTurn (tnAlloc q6)) p2 
oEnd)) (kSeq (oSet (xTurn (tnAlloc q6)) p3 
oEnd) (kSeq (kSeq (oSet (xLook (lkLoad1 g1)) p4 
(oSet (xLook (lkMkFunc (.func (nat_lit 222)) [] [g3, g1])) p5 
(oSet (xCall q170 [g4, g5]) p6 
(oSet (xLook (lkUn .not g6)) p7 
oEnd)))) (kCond g7 (kSeq (oSet (xLook (lkBuild q6 [])) p8 
(oDo (xTurn (tnStore (nat_lit 32) g2 g8)) 
oEnd)) kRet) kSkip)) (kSeq (oSet (xLook (lkLoadN (nat_lit 32) g3)) p9 
(oDo (xTurn (tnStore (nat_lit 32) g2 g9)) 
oEnd)) kRet))))⟩
noncomputable def k158 : KFun := ⟨[rTmp (nat_lit 6) g6], (kSeq (oSet (xTurn (tnBox g0)) p3 
(oSet (xTurn (tnBox g1)) p4 
(oSet (xTurn (tnBox g2)) p5 
(oSet (xMove q16) p6 
oEnd)))) (kSeq (oSet (xTurn (tnAlloc q123)) p7 
(oDo (xTurn (tnStore (nat_lit 1) g7 q16)) 
oEnd)) (kSeq (kSeq (oSet (xLook (lkLoad1 g3)) p8 
(oSet (xLook (lkMkFunc (.func (nat_lit 224)) [] [g3, g4, g5, g7])) p9 
(oSet (xCall q170 [g8, g9]) p10 
(oSet (xLook (lkUn .not g10)) p11 
oEnd)))) (kCond g11 (kSeq (oSet (xMove q16) p6 
oEnd) kRet) kSkip)) (kSeq (oSet (xLook (lkLoad1 g7)) p12 
(oSet (xMove g12) p6 
oEnd)) kRet))))⟩
def q171 : OpdF := kC (.func (.func (nat_lit 225)) ⟨[]⟩ ⟨[]⟩)
noncomputable def k159 : KFun := ⟨[rCellN (nat_lit 2) g2 (nat_lit 2)], (kSeq (oSet (xTurn (tnAlloc q26)) p2 
oEnd) (kSeq (kSeq (oSet (xMove g0) p3 
(oSet (xLook (lkEq false .ptr g3 q4)) p4 
(oSet (xMove g4) p5 
(oSetIf (wantF g5) (xMove g0) p6 
(oSetIf (wantF g5) (xNil g6) p7 
(oSetIf (wantF g5) (xLook (lkFieldAddr (nat_lit 0) g7)) p8 
(oSetIf (wantF g5) (xCall q171 [g8]) p9 
(oSet (xLook (lkPick g5 q2 g9)) p10 
oEnd)))))))) (kCond g10 (kSeq (oSet (xLook (lkBuild q26 [((nat_lit 0), (nat_lit 1), q11)])) p11 
(oDo (xTurn (tnStore (nat_lit 2) g2 g11)) 
oEnd)) kRet) kSkip)) (kSeq (oSet (xMove g0) p12 
(oSet (xNil g12) p13 
(oSet (xLook (lkFieldAddr (nat_lit 0) g13)) p14 
(oSet (xLook (lkFieldAddr (nat_lit 2) g14)) p15 
(oSet (xLook (lkLoadN (nat_lit 2) g15)) p16 
(oDo (xTurn (tnStore (nat_lit 2) g2 g16)) 
oEnd)))))) kRet)))⟩
def q172 : OpdF := kC (.func (.func (nat_lit 226)) ⟨[]⟩ ⟨[]⟩)
noncomputable def k160 : KFun := ⟨[rCellN (nat_lit 2) g2 (nat_lit 2)], (kSeq (oSet (xTurn (tnAlloc q26)) p2 
oEnd) (kSeq (oSet (xMove g0) p4 
(oSet (xCall q114 [g4]) p5 
(oSet (xTurn (tnAlloc q26)) p3 
(oDo (xTurn (tnStore (nat_lit 2) g3 g5)) 
oEnd)))) (kSeq (kSeq (oSet (xLook (lkFieldAddr (nat_lit 0) g3)) p6 
(oSet (xLook (lkLoad1 g6)) p7 
(oSet (xLook (lkEq false .int g7 q16)) p8 
(oSet (xMove g8) p9 
(oSetIf (wantT g9) (xMove g0) p10 
(oSetIf (wantT g9) (xCall q172 [g10]) p11 
(oSetIf (wantT g9) (xLook (lkBin .gtr g11 q16)) p12 
(oSet (xLook (lkPick g9 g12 q0)) p13 
oEnd)))))))) (kCond g13 (oSet (xMove g0) p14 
(oSet (xNil g14) p15 
(oSet (xLook (lkFieldAddr (nat_lit 4) g15)) p16 
(oSet (xLook (lkLoad1 g16)) p17 
(oSet (xLook (lkBuild q26 [((nat_lit 0), (nat_lit 1), q19), ((nat_lit 1), (nat_lit 1), g17)])) p18 
(oDo (xTurn (tnStore (nat_lit 2) g3 g18)) 
oEnd)))))) kSkip)) (kSeq (oSet (xLook (lkLoadN (nat_lit 2) g3)) p19 
(oDo (xTurn (tnStore (nat_lit 2) g2 g19)) 
oEnd)) kRet))))⟩
def q173 : OpdF := kC (.func (.func (nat_lit 227)) ⟨[]⟩ ⟨[]⟩)
def q174 : OpdF := kC (.func (.func (nat_lit 228)) ⟨[]⟩ ⟨[]⟩)
noncomputable def k161 : KFun := ⟨[rTmp (nat_lit 2) g2], (kSeq (oSet (xMove q0) p2 
oEnd) (kSeq (oSet (xMove g0) p4 
(oSet (xCall q173 [g4, q174]) p5 
oEnd)) (kSeq (kSeq (oSet (xMove q11) p3 
oEnd) (kBlock (nat_lit 0) (kLoop (kSeq (kSeq (oSet (xMove g3) p6 
(oSet (xMove g0) p7 
(oSet (xLook (lkLen .sl g7)) p8 
(oSet (xLook (lkBin .lss g6 g8)) p9 
oEnd)))) (kCond g9 kSkip (kExit (nat_lit 0)))) (kSeq (kBlock (nat_lit 1) (kSeq (kDraw 
(dLook (nat_lit 0) [] [] (lkMove g0) p12 
(dLook (nat_lit 1) [] [] (lkMove g3) p13 
(dLook (nat_lit 2) [] [] (lkBin .sub g13 q11) p14 
(dLook (nat_lit 3) [] [] (lkIxSl (nat_lit 2) g12 g14) p15 
(dLook (nat_lit 4) [] [] (lkFieldAddr (nat_lit 0) g15) p16 
(dLook (nat_lit 5) [] [] (lkLoad1 g16) p17 
(dLook (nat_lit 6) [] [] (lkMove g0) p18 
(dLook (nat_lit 7) [] [] (lkMove g3) p19 
(dLook (nat_lit 8) [] [] (lkBin .sub g19 q11) p20 
(dLook (nat_lit 9) [] [] (lkIxSl (nat_lit 2) g18 g20) p21 
(dLook (nat_lit 10) [] [] (lkLoadN (nat_lit 2) g21) p22 
(dTurn (nat_lit 11) [(nat_lit 5)] [] true (xCall q30 [g22]) p23 
(dLook (nat_lit 12) [] [(nat_lit 11)] (lkBin .add g17 g23) p24 
(dLook (nat_lit 13) [] [] (lkMove g0) p25 
(dLook (nat_lit 14) [] [] (lkMove g3) p26 
(dLook (nat_lit 15) [] [] (lkIxSl (nat_lit 2) g25 g26) p27 
(dLook (nat_lit 16) [] [] (lkFieldAddr (nat_lit 0) g27) p28 
(dLook (nat_lit 17) [(nat_lit 11)] [] (lkLoad1 g28) p29 
(dLook (nat_lit 18) [] [(nat_lit 11)] (lkBin .gtr g24 g29) p30 (dEnd [(nat_lit 12), (nat_lit 13), (nat_lit 14), (nat_lit 15), (nat_lit 16), (nat_lit 17), (nat_lit 18), (nat_lit 19), (nat_lit 20), (nat_lit 21), (nat_lit 22), (nat_lit 23), (nat_lit 24), (nat_lit 25), (nat_lit 26), (nat_lit 27), (nat_lit 28), (nat_lit 29), (nat_lit 30)]))))))))))))))))))))) (kCond g30 (kSeq (oSet (xMove q0) p2 
oEnd) kRet) kSkip))) (oSet (xMove g3) p10 
(oSet (xLook (lkBin .add g10 q11)) p11 
(oSet (xMove g11) p3 
oEnd)))))))) (kSeq (oSet (xMove q2) p2 
oEnd) kRet))))⟩
noncomputable def k162 : KFun := ⟨[rTmp (nat_lit 4) g4], (kSeq (oSet (xMove q16) p4 
oEnd) (kSeq (kSeq (oSet (xMove g0) p6 
(oSet (xLook (lkLen .sl g6)) p7 
(oSet (xMove q16) p8 
oEnd))) (kBlock (nat_lit 0) (kLoop (kSeq (oSet (xLook (lkBin .lss g8 g7)) p9 
oEnd) (kSeq (kCond g9 kSkip (kExit (nat_lit 0))) (kSeq (kBlock (nat_lit 1) (kSeq (oSet (xMove g8) p10 
(oSet (xMove g10) p5 
oEnd)) (kSeq (oSet (xMove g1) p11 
(oSet (xMove g0) p12 
(oSet (xMove g5) p13 
(oSet (xLook (lkIxSl (nat_lit 35) g12 g13)) p14 
(oSet (xLook (lkLoadN (nat_lit 35) g14)) p15 
(oSet (xCall g11 [g15]) p16 
oEnd)))))) (kCond g16 (kSeq (oSet (xMove g5) p17 
(oSet (xMove g17) p4 
oEnd)) kRet) kSkip)))) (oSet (xLook (lkBin .add g8 q11)) p18 
(oSet (xMove g18) p8 
oEnd)))))))) (kSeq (oSet (xMove q78) p4 
oEnd) kRet)))⟩
noncomputable def k163 : KFun := ⟨[rTmp (nat_lit 3) g3], (kSeq (oSet (xTurn (tnBox g0)) p2 
(oSet (xMove q0) p3 
oEnd)) (kSeq (oSet (xLook (lkFieldAddr (nat_lit 2) g2)) p4 
(oSet (xLook (lkLoadN (nat_lit 32) g4)) p5 
(oSet (xLook (lkLoadN (nat_lit 32) g1)) p6 
(oSet (xLook (lkEq false (.flat [(.int .u8), (.int .u8), (.int .u8), (.int .u8), (.int .u8), (.int .u8), (.int .u8), (.int .u8), (.int .u8), (.int .u8), (.int .u8), (.int .u8), (.int .u8), (.int .u8), (.int .u8), (.int .u8), (.int .u8), (.int .u8), (.int .u8), (.int .u8), (.int .u8), (.int .u8), (.int .u8), (.int .u8), (.int .u8), (.int .u8), (.int .u8), (.int .u8), (.int .u8), (.int .u8), (.int .u8), (.int .u8)]) g5 g6)) p7 
(oSet (xMove g7) p3 
oEnd))))) kRet))⟩
def q175 : OpdF := kC (.func (.func (nat_lit 229)) ⟨[]⟩ ⟨[]⟩)
noncomputable def k164 : KFun := ⟨[rTmp (nat_lit 2) g2], (kSeq (oSet (xMove q16) p2 
oEnd) (kSeq (oSet (xMove q78) p3 
oEnd) (kSeq (kSeq (oSet (xMove g0) p6 
(oSet (xLook (lkLen .sl g6)) p7 
(oSet (xMove q16) p8 
oEnd))) (kBlock (nat_lit 0) (kLoop (kSeq (oSet (xLook (lkBin .lss g8 g7)) p9 
oEnd) (kSeq (kCond g9 kSkip (kExit (nat_lit 0))) (kSeq (kBlock (nat_lit 1) (kSeq (oSet (xLook (lkIxSl (nat_lit 2) g6 g8)) p10 
(oSet (xLook (lkLoadN (nat_lit 2) g10)) p11 
(oSet (xTurn (tnAlloc q26)) p5 
(oDo (xTurn (tnStore (nat_lit 2) g5 g11)) 
oEnd)))) (kSeq (kSeq (oSet (xLook (lkFieldAddr (nat_lit 1) g5)) p12 
(oSet (xLook (lkLoad1 g12)) p13 
(oSet (xLook (lkBin .lss g13 q11)) p14 
(oSet (xMove g14) p15 
(oSetIf (wantF g15) (xLook (lkFieldAddr (nat_lit 0) g5)) p16 
(oSetIf (wantF g15) (xLook (lkLoad1 g16)) p17 
(oSetIf (wantF g15) (xMove g3) p18 
(oSetIf (wantF g15) (xLook (lkBin .leq g17 g18)) p19 
(oSet (xLook (lkPick g15 q2 g19)) p20 
(oSet (xMove g20) p21 
(oSetIf (wantF g21) (xLook (lkFieldAddr (nat_lit 0) g5)) p22 
(oSetIf (wantF g21) (xLook (lkLoad1 g22)) p23 
(oSetIf (wantF g21) (xLook (lkBin .lss g23 q16)) p24 
(oSet (xLook (lkPick g21 q2 g24)) p25 
(oSet (xMove g25) p26 
(oSetIf (wantF g26) (xLook (lkFieldAddr (nat_lit 0) g5)) p27 
(oSetIf (wantF g26) (xLook (lkLoad1 g27)) p28 
(oSetIf (wantF g26) (xLook (lkBin .gtr g28 q39)) p29 
(oSet (xLook (lkPick g26 q2 g29)) p30 
(oSet (xMove g30) p31 
(oSetIf (wantF g31) (xLook (lkFieldAddr (nat_lit 1) g5)) p32 
(oSetIf (wantF g31) (xLook (lkLoad1 g32)) p33 
(oSetIf (wantF g31) (xLook (lkFieldAddr (nat_lit 0) g5)) p34 
(oSetIf (wantF g31) (xLook (lkLoad1 g34)) p35 
(oSetIf (wantF g31) (xLook (lkBin .sub q39 g35)) p36 
(oSetIf (wantF g31) (xLook (lkBin .gtr g33 g36)) p37 
(oSet (xLook (lkPick g31 q2 g37)) p38 
oEnd))))))))))))))))))))))))))) (kCond g38 (kSeq (oSet (xMove q32) p2 
oEnd) kRet) kSkip)) (oSet (xLook (lkLoadN (nat_lit 2) g5)) p39 
(oSet (xCall q175 [g39]) p40 
(oSet (xMove g40) p3 
oEnd)))))) (oSet (xLook (lkBin .add g8 q11)) p41 
(oSet (xMove g41) p8 
oEnd)))))))) (kSeq (oSet (xMove q16) p2 
oEnd) kRet))))⟩
def q176 : OpdF := kC (.func (.func (nat_lit 166)) ⟨[]⟩ ⟨[]⟩)
noncomputable def k165 : KFun := ⟨[], (kSeq (oSet (xTurn (tnBox g0)) p2 
oEnd) (kSeq (oSet (xLook (lkLoadN (nat_lit 2) g2)) p4 
(oSet (xCall q30 [g4]) p5 
(oSet (xMove g5) p3 
oEnd))) (kSeq (oSet (xMove g3) p6 
(oSet (xLook (lkBin .gtr g6 q16)) p7 
(oSet (xMove g7) p8 
(oSetIf (wantT g8) (xLook (lkFieldAddr (nat_lit 0) g2)) p9 
(oSetIf (wantT g8) (xLook (lkLoad1 g9)) p10 
(oSetIf (wantT g8) (xLook (lkBin .gtr g10 q16)) p11 
(oSet (xLook (lkPick g8 g11 q0)) p12 
oEnd))))))) (kCond g12 (oSet (xLook (lkLoad1 g1)) p14 
(oSet (xLook (lkFieldAddr (nat_lit 0) g2)) p15 
(oSet (xLook (lkLoad1 g15)) p16 
(oSet (xMove g3) p17 
(oSet (xCall q176 [g14, g16, g17]) p18 
(oSet (xMove g18) p13 
(oSet (xLook (lkExtract (nat_lit 0) g13)) p19 
(oSet (xLook (lkExtract (nat_lit 1) g13)) p20 
(oDo (xTurn (tnStore (nat_lit 1) g1 g19)) 
oEnd))))))))) kSkip))))⟩
def q177 : OpdF := kC (.func (.func (nat_lit 230)) ⟨[]⟩ ⟨[]⟩)
def q178 : OpdF := kC (.func (.func (nat_lit 231)) ⟨[]⟩ ⟨[]⟩)
noncomputable def k166 : KFun := ⟨[rTmp (nat_lit 6) g6, rTmp (nat_lit 7) g7], (kSeq (oSet (xMove q5) p6 
(oSet (xMove q16) p7 
oEnd)) (kSeq (kSeq (oSet (xMove g0) p9 
(oSet (xMove g1) p10 
(oSet (xMove g2) p11 
(oSet (xCall q177 [g9, g10, g11]) p12 
oEnd)))) (kCond g12 (kSeq (oSet (xMove q5) p6 
(oSet (xMove q32) p7 
oEnd)) kRet) kSkip)) (kSeq (oSet (xMove g0) p13 
(oSet (xMove g1) p14 
(oSet (xCall q178 [g13, g14]) p15 
(oSet (xMove g15) p8 
oEnd)))) (kSeq (kSeq (oSet (xMove g8) p16 
(oSet (xMove g0) p17 
(oSet (xLook (lkLen .sl g17)) p18 
(oSet (xLook (lkEq false .int g16 g18)) p19 
(oSet (xMove g19) p20 
(oSetIf (wantF g20) (xMove g0) p21 
(oSetIf (wantF g20) (xMove g8) p22 
(oSetIf (wantF g20) (xLook (lkIxSl (nat_lit 2) g21 g22)) p23 
(oSetIf (wantF g20) (xLook (lkFieldAddr (nat_lit 0) g23)) p24 
(oSetIf (wantF g20) (xLook (lkLoad1 g24)) p25 
(oSetIf (wantF g20) (xMove g1) p26 
(oSetIf (wantF g20) (xLook (lkBin .gtr g25 g26)) p27 
(oSet (xLook (lkPick g20 q2 g27)) p28 
(oSet (xMove g28) p29 
(oSetIf (wantF g29) (xMove g0) p30 
(oSetIf (wantF g29) (xMove g8) p31 
(oSetIf (wantF g29) (xLook (lkIxSl (nat_lit 2) g30 g31)) p32 
(oSetIf (wantF g29) (xLook (lkLoadN (nat_lit 2) g32)) p33 
(oSetIf (wantF g29) (xCall q175 [g33]) p34 
(oSetIf (wantF g29) (xMove g1) p35 
(oSetIf (wantF g29) (xMove g2) p36 
(oSetIf (wantF g29) (xLook (lkBin .add g35 g36)) p37 
(oSetIf (wantF g29) (xLook (lkBin .lss g34 g37)) p38 
(oSet (xLook (lkPick g29 q2 g38)) p39 
oEnd)))))))))))))))))))))))) (kCond g39 (kSeq (oSet (xMove q5) p6 
(oSet (xMove q152) p7 
oEnd)) kRet) kSkip)) (kSeq (oSet (xMove g0) p40 
(oSet (xMove g8) p41 
(oSet (xMove g1) p42 
(oSet (xMove g2) p43 
(oSet (xCall q166 [g40, g41, g42, g43]) p44 
(oSet (xMove g44) p6 
(oSet (xMove q16) p7 
oEnd))))))) kRet)))))⟩
def q179 : OpdF := kC (.int .i64 (.ofNat (nat_lit 32)))
noncomputable def k169 : KFun := ⟨[rTmp (nat_lit 2) g2], (kSeq (oSet (xMove q0) p2 
oEnd) (kSeq (oSet (xMove g0) p3 
(oSet (xLook (lkEq true .str g3 q50)) p4 
(oSet (xMove g4) p5 
(oSetIf (wantT g5) (xMove g0) p6 
(oSetIf (wantT g5) (xLook (lkLen .str g6)) p7 
(oSetIf (wantT g5) (xLook (lkBin .leq g7 q179)) p8 
(oSet (xLook (lkPick g5 g8 q0)) p9 
(oSet (xMove g9) p2 
oEnd)))))))) kRet))⟩
def q180 : List Value := [(.int .i64 (.ofNat (nat_lit 0))), (.slice none (nat_lit 0) (nat_lit 0)), (.slice none (nat_lit 0) (nat_lit 0))]
def q181 : OpdF := kC (.func (.func (nat_lit 233)) ⟨[]⟩ ⟨[]⟩)
noncomputable def k170 : KFun := ⟨[rTmp (nat_lit 2) g2], (kSeq (oSet (xMove q5) p2 
oEnd) (kSeq (kSeq (oSet (xMove g0) p9 
(oSet (xCall q121 [g9]) p10 
(oSet (xLook (lkEq true .int g10 q16)) p11 
oEnd))) (kCond g11 (kSeq (oSet (xMove q5) p2 
oEnd) kRet) kSkip)) (kSeq (kSeq (oSet (xMove g0) p12 
(oSet (xLook (lkLen .sl g12)) p13 
(oSet (xLook (lkEq false .int g13 q16)) p14 
oEnd))) (kCond g14 (kSeq (oSet (xLook (lkBuild q180 [])) p15 
(oSet (xTurn (tnBuildSlice q180 [((nat_lit 0), (nat_lit 3), g15)] (nat_lit 1))) p16 
(oSet (xMove g16) p2 
oEnd))) kRet) kSkip)) (kSeq (oSet (xMove q5) p3 
oEnd) (kSeq (kSeq (oSet (xMove g0) p17 
(oSet (xLook (lkLen .sl g17)) p18 
(oSet (xMove q16) p19 
oEnd))) (kBlock (nat_lit 0) (kLoop (kSeq (oSet (xLook (lkBin .lss g19 g18)) p20 
oEnd) (kSeq (kCond g20 kSkip (kExit (nat_lit 0))) (kSeq (kBlock (nat_lit 1) (kSeq (oSet (xLook (lkIxSl (nat_lit 2) g17 g19)) p21 
(oSet (xLook (lkLoadN (nat_lit 2) g21)) p22 
(oSet (xTurn (tnAlloc q53)) p5 
(oDo (xTurn (tnStore (nat_lit 2) g5 g22)) 
oEnd)))) (oSet (xMove g3) p23 
(oSet (xLook (lkFieldAddr (nat_lit 0) g5)) p24 
(oSet (xLook (lkLoad1 g24)) p25 
(oSet (xTurn (tnBuildSlice q127 [((nat_lit 0), (nat_lit 1), g25)] (nat_lit 1))) p26 
(oSet (xTurn (tnAppend (nat_lit 1) g23 g26)) p27 
(oSet (xMove g27) p3 
oEnd)))))))) (oSet (xLook (lkBin .add g19 q11)) p28 
(oSet (xMove g28) p19 
oEnd)))))))) (kSeq (oSet (xMove q5) p6 
oEnd) (kSeq (kSeq (oSet (xMove g3) p29 
(oSet (xCall q181 [g29, q16]) p30 
(oSet (xLook (lkLen .sl g30)) p31 
(oSet (xMove q16) p32 
oEnd)))) (kBlock (nat_lit 2) (kLoop (kSeq (oSet (xLook (lkBin .lss g32 g31)) p33 
oEnd) (kSeq (kCond g33 kSkip (kExit (nat_lit 2))) (kSeq (kBlock (nat_lit 3) (kSeq (oSet (xLook (lkIxSl (nat_lit 1) g30 g32)) p34 
(oSet (xLook (lkLoad1 g34)) p35 
(oSet (xMove g35) p8 
oEnd))) (kSeq (oSet (xMove g6) p36 
(oSet (xMove g0) p37 
(oSet (xMove g8) p38 
(oSet (xLook (lkSliceSl (nat_lit 2) g37 none (some g38) none)) p39 
(oSet (xTurn (tnAppend (nat_lit 2) q5 g39)) p40 
(oSet (xLook (lkBuild q180 [((nat_lit 1), (nat_lit 1), g40)])) p41 
(oSet (xTurn (tnBuildSlice q180 [((nat_lit 0), (nat_lit 3), g41)] (nat_lit 1))) p42 
(oSet (xTurn (tnAppend (nat_lit 3) g36 g42)) p43 
(oSet (xMove g43) p6 
oEnd))))))))) (oSet (xMove g0) p44 
(oSet (xMove g8) p45 
(oSet (xLook (lkSliceSl (nat_lit 2) g44 (some g45) none none)) p46 
(oSet (xMove g46) p0 
oEnd))))))) (oSet (xLook (lkBin .add g32 q11)) p47 
(oSet (xMove g47) p32 
oEnd)))))))) (kSeq (oSet (xMove g6) p48 
(oSet (xMove g48) p2 
oEnd)) kRet))))))))⟩
def q182 : OpdF := kC (.func (.func (nat_lit 172)) ⟨[]⟩ ⟨[]⟩)
def q183 : List Value := [(.int .i64 (.ofNat (nat_lit 0))), (.slice none (nat_lit 0) (nat_lit 0)), (.slice none (nat_lit 0) (nat_lit 0)), (.int .u8 (.ofNat (nat_lit 0))), (.int .u8 (.ofNat (nat_lit 0))), (.int .u8 (.ofNat (nat_lit 0))), (.int .u8 (.ofNat (nat_lit 0))), (.int .u8 (.ofNat (nat_lit 0))), (.int .u8 (.ofNat (nat_lit 0))), (.int .u8 (.ofNat (nat_lit 0))), (.int .u8 (.ofNat (nat_lit 0))), (.int .u8 (.ofNat (nat_lit 0))), (.int .u8 (.ofNat (nat_lit 0))), (.int .u8 (.ofNat (nat_lit 0))), (.int .u8 (.ofNat (nat_lit 0))), (.int .u8 (.ofNat (nat_lit 0))), (.int .u8 (.ofNat (nat_lit 0))), (.int .u8 (.ofNat (nat_lit 0))), (.int .u8 (.ofNat (nat_lit 0))), (.int .u8 (.ofNat (nat_lit 0))), (.int .u8 (.ofNat (nat_lit 0))), (.int .u8 (.ofNat (nat_lit 0))), (.int .u8 (.ofNat (nat_lit 0))), (.int .u8 (.ofNat (nat_lit 0))), (.int .u8 (.ofNat (nat_lit 0))), (.int .u8 (.ofNat (nat_lit 0))), (.int .u8 (.ofNat (nat_lit 0))), (.int .u8 (.ofNat (nat_lit 0))), (.int .u8 (.ofNat (nat_lit 0))), (.int .u8 (.ofNat (nat_lit 0))), (.int .u8 (.ofNat (nat_lit 0))), (.int .u8 (.ofNat (nat_lit 0))), (.int .u8 (.ofNat (nat_lit 0))), (.int .u8 (.ofNat (nat_lit 0))), (.int .u8 (.ofNat (nat_lit 0))), (.slice none (nat_lit 0) (nat_lit 0))]
def q184 : List Value := [(.string ⟨⟨[]⟩⟩), (.int .u8 (.ofNat (nat_lit 0))), (.int .u8 (.ofNat (nat_lit 0))), (.int .u8 (.ofNat (nat_lit 0))), (.int .u8 (.ofNat (nat_lit 0))), (.int .u8 (.ofNat (nat_lit 0))), (.int .u8 (.ofNat (nat_lit 0))), (.int .u8 (.ofNat (nat_lit 0))), (.int .u8 (.ofNat (nat_lit 0))), (.int .u8 (.ofNat (nat_lit 0))), (.int .u8 (.ofNat (nat_lit 0))), (.int .u8 (.ofNat (nat_lit 0))), (.int .u8 (.ofNat (nat_lit 0))), (.int .u8 (.ofNat (nat_lit 0))), (.int .u8 (.ofNat (nat_lit 0))), (.int .u8 (.ofNat (nat_lit 0))), (.int .u8 (.ofNat (nat_lit 0))), (.int .u8 (.ofNat (nat_lit 0))), (.int .u8 (.ofNat (nat_lit 0))), (.int .u8 (.ofNat (nat_lit 0))), (.int .u8 (.ofNat (nat_lit 0))), (.int .u8 (.ofNat (nat_lit 0))), (.int .u8 (.ofNat (nat_lit 0))), (.int .u8 (.ofNat (nat_lit 0))), (.int .u8 (.ofNat (nat_lit 0))), (.int .u8 (.ofNat (nat_lit 0))), (.int .u8 (.ofNat (nat_lit 0))), (.int .u8 (.ofNat (nat_lit 0))), (.int .u8 (.ofNat (nat_lit 0))), (.int .u8 (.ofNat (nat_lit 0))), (.int .u8 (.ofNat (nat_lit 0))), (.int .u8 (.ofNat (nat_lit 0))), (.int .u8 (.ofNat (nat_lit 0))), (.int .i64 (.ofNat (nat_lit 0)))]
def q185 : OpdF := kC (.func (.func (nat_lit 173)) ⟨[]⟩ ⟨[]⟩)
def q186 : OpdF := kC (.func (.func (nat_lit 174)) ⟨[]⟩ ⟨[]⟩)
noncomputable def k171 : KFun := ⟨[rTmp (nat_lit 4) g4], (kSeq (oSet (xMove q0) p4 
oEnd) (kSeq (oSet (xMove q5) p5 
oEnd) (kSeq (kSeq (oSet (xLook (lkLoad1 g0)) p9 
(oSet (xLook (lkLen .sl g9)) p10 
(oSet (xMove q16) p11 
oEnd))) (kBlock (nat_lit 0) (kLoop (kSeq (oSet (xLook (lkBin .lss g11 g10)) p12 
oEnd) (kSeq (kCond g12 kSkip (kExit (nat_lit 0))) (kSeq (kBlock (nat_lit 1) (kSeq (oSet (xLook (lkIxSl (nat_lit 3) g9 g11)) p13 
(oSet (xLook (lkLoadN (nat_lit 3) g13)) p14 
(oSet (xTurn (tnAlloc q180)) p7 
(oDo (xTurn (tnStore (nat_lit 3) g7 g14)) 
oEnd)))) (kSeq (oSet (xLook (lkLoadN (nat_lit 3) g7)) p15 
(oSet (xCall q182 [g15]) p16 
(oSet (xTurn (tnAlloc q183)) p8 
(oDo (xTurn (tnStore (nat_lit 36) g8 g16)) 
oEnd)))) (kSeq (kDraw 
(dLook (nat_lit 0) [] [] (lkLoad1 g1) p17 
(dLook (nat_lit 1) [] [] (lkFieldAddr (nat_lit 3) g8) p18 
(dLook (nat_lit 2) [] [] (lkLoadN (nat_lit 33) g18) p19 
(dTurn (nat_lit 3) [] [] false (xTurn (tnBuildSlice q48 [((nat_lit 0), (nat_lit 33), g19)] (nat_lit 1))) p20 
(dTurn (nat_lit 4) [] [] true (xTurn (tnAppend (nat_lit 33) g17 g20)) p21 
(dLook (nat_lit 5) [] [] (lkMove g5) p22 
(dLook (nat_lit 6) [(nat_lit 4)] [] (lkLoadN (nat_lit 36) g8) p23 
(dTurn (nat_lit 7) [] [(nat_lit 4)] true (xCall q185 [g23]) p24 
(dTurn (nat_lit 8) [] [(nat_lit 4), (nat_lit 7)] false (xTurn (tnBuildSlice q184 [((nat_lit 0), (nat_lit 34), g24)] (nat_lit 1))) p25 
(dTurn (nat_lit 9) [] [(nat_lit 4), (nat_lit 7)] true (xTurn (tnAppend (nat_lit 34) g22 g25)) p26 
(dTurn (nat_lit 10) [] [(nat_lit 4), (nat_lit 7), (nat_lit 9)] true (xTurn (tnStore (nat_lit 1) g1 g21)) noDst 
(dLook (nat_lit 11) [] [(nat_lit 4), (nat_lit 7), (nat_lit 9), (nat_lit 10)] (lkMove g26) p5 (dEnd [(nat_lit 17), (nat_lit 18), (nat_lit 19), (nat_lit 20), (nat_lit 21), (nat_lit 22), (nat_lit 23), (nat_lit 24), (nat_lit 25), (nat_lit 26), (nat_lit 5)])))))))))))))) (oSet (xLook (lkFieldAddr (nat_lit 3) g8)) p27 
(oSet (xLook (lkFieldAddr (nat_lit 0) g27)) p28 
(oSet (xLook (lkLoadN (nat_lit 32) g28)) p29 
(oDo (xTurn (tnStore (nat_lit 32) g2 g29)) 
oEnd)))))))) (oSet (xLook (lkBin .add g11 q11)) p30 
(oSet (xMove g30) p11 
oEnd)))))))) (kSeq (oSet (xLook (lkLoad1 g3)) p31 
(oSet (xLook (lkBin .add g31 q11)) p32 
(oDo (xTurn (tnStore (nat_lit 1) g3 g32)) 
oEnd))) (kSeq (kSeq (oSet (xMove g5) p33 
(oSet (xLook (lkLen .sl g33)) p34 
(oSet (xLook (lkBin .gtr g34 q11)) p35 
oEnd))) (kCond g35 (kSeq (oSet (xMove g5) p36 
(oSet (xLook (lkLoad1 g3)) p37 
(oSet (xCall q186 [g36, g37]) p38 
(oDo (xTurn (tnStore (nat_lit 1) g0 g38)) 
oEnd)))) (kSeq (oSet (xLook (lkLoad1 g0)) p39 
(oSet (xLook (lkLen .sl g39)) p40 
(oSet (xLook (lkBin .gtr g40 q16)) p41 
(oSet (xMove g41) p4 
oEnd)))) kRet)) kSkip)) (kSeq (oSet (xMove q0) p4 
oEnd) kRet))))))⟩
def q187 : OpdF := kC (.func (.func (nat_lit 234)) ⟨[]⟩ ⟨[]⟩)
noncomputable def k172 : KFun := ⟨[rCellN (nat_lit 2) g2 (nat_lit 36)], (kSeq (oSet (xTurn (tnBox g0)) p1 
(oSet (xTurn (tnAlloc q183)) p2 
oEnd)) (kSeq (oSet (xLook (lkLoadN (nat_lit 3) g1)) p6 
(oSet (xCall q187 [g6]) p7 
(oSet (xMove g7) p5 
(oSet (xLook (lkExtract (nat_lit 0) g5)) p8 
(oSet (xLook (lkExtract (nat_lit 1) g5)) p9 
(oSet (xMove g8) p3 
(oSet (xMove g9) p4 
oEnd))))))) (kSeq (kDraw 
(dLook (nat_lit 0) [] [] (lkLoadN (nat_lit 3) g1) p10 
(dLook (nat_lit 1) [] [] (lkMove g3) p11 
(dTurn (nat_lit 2) [(nat_lit 0)] [] true (xCall q38 [g11]) p12 
(dLook (nat_lit 3) [] [] (lkMove g3) p13 
(dLook (nat_lit 4) [] [(nat_lit 2)] (lkBuild q48 [((nat_lit 0), (nat_lit 32), g12), ((nat_lit 32), (nat_lit 1), g13)]) p14 
(dLook (nat_lit 5) [] [(nat_lit 2)] (lkBuild q183 [((nat_lit 0), (nat_lit 3), g10), ((nat_lit 3), (nat_lit 33), g14)]) p15 
(dTurn (nat_lit 6) [] [(nat_lit 2)] true (xTurn (tnStore (nat_lit 36) g2 g15)) noDst (dEnd [(nat_lit 10), (nat_lit 11), (nat_lit 12), (nat_lit 13), (nat_lit 14), (nat_lit 15)]))))))))) kRet)))⟩
def q188 : OpdF := kC (.func (.func (nat_lit 236)) ⟨[]⟩ ⟨[]⟩)
def q189 : OpdF := kC (.func (.func (nat_lit 235)) ⟨[]⟩ ⟨[]⟩)
noncomputable def k173 : KFun := ⟨[rCellN (nat_lit 2) g2 (nat_lit 34)], (kSeq (oSet (xTurn (tnBox g0)) p1 
(oSet (xTurn (tnAlloc q184)) p2 
oEnd)) (kSeq (kDraw 
(dLook (nat_lit 0) [] [] (lkFieldAddr (nat_lit 0) g1) p3 
(dLook (nat_lit 1) [] [] (lkLoadN (nat_lit 3) g3) p4 
(dTurn (nat_lit 2) [] [] true (xCall q189 [g4]) p5 
(dLook (nat_lit 3) [] [] (lkFieldAddr (nat_lit 3) g1) p6 
(dLook (nat_lit 4) [] [] (lkFieldAddr (nat_lit 0) g6) p7 
(dLook (nat_lit 5) [(nat_lit 2)] [] (lkLoadN (nat_lit 32) g7) p8 
(dLook (nat_lit 6) [] [] (lkFieldAddr (nat_lit 0) g1) p9 
(dLook (nat_lit 7) [(nat_lit 2)] [] (lkLoadN (nat_lit 3) g9) p10 
(dTurn (nat_lit 8) [(nat_lit 5)] [(nat_lit 2)] true (xCall q188 [g10]) p11 
(dLook (nat_lit 9) [] [(nat_lit 2), (nat_lit 8)] (lkBuild q184 [((nat_lit 0), (nat_lit 1), g5), ((nat_lit 1), (nat_lit 32), g8), ((nat_lit 33), (nat_lit 1), g11)]) p12 
(dTurn (nat_lit 10) [] [(nat_lit 2), (nat_lit 8)] true (xTurn (tnStore (nat_lit 34) g2 g12)) noDst (dEnd [(nat_lit 3), (nat_lit 4), (nat_lit 5), (nat_lit 6), (nat_lit 7), (nat_lit 8), (nat_lit 9), (nat_lit 10), (nat_lit 11), (nat_lit 12)]))))))))))))) kRet))⟩
def q190 : OpdF := kC (.int .i64 (.ofNat (nat_lit 20)))
def q191 : OpdF := kC (.func (.func (nat_lit 237)) ⟨[]⟩ ⟨[]⟩)
noncomputable def k174 : KFun := ⟨[rTmp (nat_lit 4) g4], (kSeq (oSet (xMove q5) p4 
oEnd) (kSeq (kSeq (oSet (xMove g1) p12 
(oSet (xLook (lkBin .lss g12 q11)) p13 
(oSet (xMove g13) p14 
(oSetIf (wantF g14) (xMove g1) p15 
(oSetIf (wantF g14) (xLook (lkBin .gtr g15 q190)) p16 
(oSet (xLook (lkPick g14 q2 g16)) p17 
oEnd)))))) (kCond g17 (kSeq (oSet (xMove q5) p4 
oEnd) kRet) kSkip)) (kSeq (oSet (xMove q5) p5 
oEnd) (kSeq (kSeq (oSet (xMove g0) p18 
(oSet (xLook (lkLen .sl g18)) p19 
(oSet (xMove q16) p20 
oEnd))) (kBlock (nat_lit 0) (kLoop (kSeq (oSet (xLook (lkBin .lss g20 g19)) p21 
oEnd) (kSeq (kCond g21 kSkip (kExit (nat_lit 0))) (kSeq (kBlock (nat_lit 1) (kSeq (oSet (xLook (lkIxSl (nat_lit 34) g18 g20)) p22 
(oSet (xLook (lkLoadN (nat_lit 34) g22)) p23 
(oSet (xTurn (tnAlloc q184)) p7 
(oDo (xTurn (tnStore (nat_lit 34) g7 g23)) 
oEnd)))) (oSet (xMove g5) p24 
(oSet (xLook (lkFieldAddr (nat_lit 0) g7)) p25 
(oSet (xLook (lkLoad1 g25)) p26 
(oSet (xTurn (tnBuildSlice q127 [((nat_lit 0), (nat_lit 1), g26)] (nat_lit 1))) p27 
(oSet (xTurn (tnAppend (nat_lit 1) g24 g27)) p28 
(oSet (xMove g28) p5 
oEnd)))))))) (oSet (xLook (lkBin .add g20 q11)) p29 
(oSet (xMove g29) p20 
oEnd)))))))) (kSeq (oSet (xMove q5) p8 
oEnd) (kSeq (kSeq (oSet (xMove g5) p30 
(oSet (xMove g1) p31 
(oSet (xCall q181 [g30, g31]) p32 
(oSet (xLook (lkLen .sl g32)) p33 
(oSet (xMove q16) p34 
oEnd))))) (kBlock (nat_lit 2) (kLoop (kSeq (oSet (xLook (lkBin .lss g34 g33)) p35 
oEnd) (kSeq (kCond g35 kSkip (kExit (nat_lit 2))) (kSeq (kBlock (nat_lit 3) (kSeq (oSet (xLook (lkIxSl (nat_lit 1) g32 g34)) p36 
(oSet (xLook (lkLoad1 g36)) p37 
(oSet (xMove g37) p10 
oEnd))) (kSeq (oSet (xMove g1) p38 
(oSet (xMove g0) p39 
(oSet (xMove g10) p40 
(oSet (xLook (lkSliceSl (nat_lit 34) g39 none (some g40) none)) p41 
(oSet (xTurn (tnAppend (nat_lit 34) q5 g41)) p42 
(oSet (xLook (lkBuild q180 [((nat_lit 0), (nat_lit 1), g38), ((nat_lit 2), (nat_lit 1), g42)])) p43 
(oSet (xTurn (tnAlloc q180)) p11 
(oDo (xTurn (tnStore (nat_lit 3) g11 g43)) 
oEnd)))))))) (kSeq (kSeq (oSet (xLook (lkLoadN (nat_lit 3) g11)) p44 
(oSet (xCall q191 [g44]) p45 
(oSet (xLook (lkEq true .int g45 q16)) p46 
oEnd))) (kCond g46 (kSeq (oSet (xMove q5) p4 
oEnd) kRet) kSkip)) (kDraw 
(dLook (nat_lit 0) [] [] (lkMove g8) p47 
(dLook (nat_lit 1) [] [] (lkLoadN (nat_lit 3) g11) p48 
(dTurn (nat_lit 2) [] [] false (xTurn (tnBuildSlice q180 [((nat_lit 0), (nat_lit 3), g48)] (nat_lit 1))) p49 
(dTurn (nat_lit 3) [] [] true (xTurn (tnAppend (nat_lit 3) g47 g49)) p50 
(dLook (nat_lit 4) [] [] (lkMove g0) p51 
(dLook (nat_lit 5) [] [] (lkMove g10) p52 
(dLook (nat_lit 6) [] [] (lkSliceSl (nat_lit 34) g51 (some g52) none none) p53 
(dLook (nat_lit 7) [] [(nat_lit 3)] (lkMove g50) p8 
(dLook (nat_lit 8) [] [(nat_lit 3)] (lkMove g53) p0 (dEnd [(nat_lit 47), (nat_lit 48), (nat_lit 49), (nat_lit 50), (nat_lit 51), (nat_lit 52), (nat_lit 53), (nat_lit 8), (nat_lit 0)]))))))))))))))) (oSet (xLook (lkBin .add g34 q11)) p54 
(oSet (xMove g54) p34 
oEnd)))))))) (kSeq (oSet (xMove g8) p55 
(oSet (xMove g55) p4 
oEnd)) kRet)))))))⟩
def q192 : OpdF := kC (.func (.func (nat_lit 176)) ⟨[]⟩ ⟨[]⟩)
def q193 : OpdF := kC (.func (.func (nat_lit 177)) ⟨[]⟩ ⟨[]⟩)
noncomputable def k175 : KFun := ⟨[], (kSeq (oSet (xLook (lkLoad1 g1)) p8 
(oSet (xLook (lkLoadN (nat_lit 32) g2)) p9 
(oSet (xCall q192 [g8, g9]) p10 
(oSet (xMove g10) p7 
(oSet (xLook (lkExtract (nat_lit 0) g7)) p11 
(oSet (xLook (lkExtract (nat_lit 1) g7)) p12 
(oSet (xTurn (tnAlloc q180)) p5 
(oDo (xTurn (tnStore (nat_lit 3) g5 g11)) 
(oSet (xMove g12) p6 
oEnd))))))))) (kSeq (oSet (xMove g6) p13 
oEnd) (kCond g13 (oSet (xLook (lkLoad1 g1)) p14 
(oSet (xLook (lkLoadN (nat_lit 3) g5)) p15 
(oSet (xLook (lkLoadN (nat_lit 2) g3)) p16 
(oSet (xMove g0) p17 
(oSet (xCall q193 [g14, g15, g16, g17]) p18 
oEnd))))) kSkip)))⟩
def q194 : OpdF := kC (.func (.func (nat_lit 238)) ⟨[]⟩ ⟨[]⟩)
noncomputable def k176 : KFun := ⟨[rCellN (nat_lit 4) g4 (nat_lit 3), rTmp (nat_lit 5) g5], (kSeq (oSet (xTurn (tnBox g1)) p3 
(oSet (xTurn (tnAlloc q180)) p4 
(oSet (xMove q0) p5 
oEnd))) (kSeq (kDraw 
(dLook (nat_lit 0) [] [] (lkMove g0) p11 
(dTurn (nat_lit 1) [] [] false (xNil g11) p12 
(dLook (nat_lit 2) [] [] (lkFieldAddr (nat_lit 0) g12) p13 
(dLook (nat_lit 3) [] [] (lkLoad1 g13) p14 
(dLook (nat_lit 4) [] [] (lkLoadN (nat_lit 32) g3) p15 
(dTurn (nat_lit 5) [] [] true (xCall q124 [g14, g15]) p16 
(dLook (nat_lit 6) [] [(nat_lit 5)] (lkMove g16) p10 
(dLook (nat_lit 7) [] [(nat_lit 5)] (lkExtract (nat_lit 0) g10) p17 
(dLook (nat_lit 8) [] [(nat_lit 5)] (lkExtract (nat_lit 1) g10) p18 
(dLook (nat_lit 9) [] [(nat_lit 5)] (lkMove g17) p6 
(dLook (nat_lit 10) [] [(nat_lit 5)] (lkMove g18) p7 (dEnd [(nat_lit 11), (nat_lit 12), (nat_lit 13), (nat_lit 14), (nat_lit 15), (nat_lit 16), (nat_lit 10), (nat_lit 17), (nat_lit 18), (nat_lit 6), (nat_lit 7)]))))))))))))) (kSeq (kSeq (oSet (xMove g7) p19 
(oSet (xLook (lkEq true .int g19 q16)) p20 
oEnd)) (kCond g20 (kSeq (oSet (xMove g0) p21 
(oSet (xMove g7) p22 
(oSet (xNil g21) p23 
(oSet (xLook (lkFieldAddr (nat_lit 2) g23)) p24 
(oDo (xTurn (tnStore (nat_lit 1) g24 g22)) 
oEnd))))) (kSeq (oSet (xLook (lkBuild q180 [])) p25 
(oDo (xTurn (tnStore (nat_lit 3) g4 g25)) 
(oSet (xMove q0) p5 
oEnd))) kRet)) kSkip)) (kSeq (oSet (xMove g6) p27 
(oSet (xCall q194 [g27]) p28 
(oSet (xMove g28) p26 
(oSet (xLook (lkExtract (nat_lit 0) g26)) p29 
(oSet (xLook (lkExtract (nat_lit 1) g26)) p30 
(oSet (xTurn (tnAlloc q180)) p8 
(oSet (xTurn (tnAlloc q26)) p9 
(oDo (xTurn (tnStore (nat_lit 3) g8 g29)) 
(oDo (xTurn (tnStore (nat_lit 2) g9 g30)) 
oEnd))))))))) (kSeq (kSeq (oSet (xLook (lkFieldAddr (nat_lit 0) g9)) p31 
(oSet (xLook (lkLoad1 g31)) p32 
(oSet (xLook (lkEq true .int g32 q16)) p33 
oEnd))) (kCond g33 (kSeq (oSet (xMove g0) p34 
(oSet (xNil g34) p35 
(oSet (xLook (lkFieldAddr (nat_lit 2) g35)) p36 
(oDo (xTurn (tnStore (nat_lit 1) g36 q28)) 
oEnd)))) (kSeq (oSet (xLook (lkBuild q180 [])) p37 
(oDo (xTurn (tnStore (nat_lit 3) g4 g37)) 
(oSet (xMove q0) p5 
oEnd))) kRet)) kSkip)) (kSeq (kDraw 
(dLook (nat_lit 0) [] [] (lkMove g0) p38 
(dTurn (nat_lit 1) [] [] false (xNil g38) p39 
(dLook (nat_lit 2) [] [] (lkFieldAddr (nat_lit 1) g39) p40 
(dLook (nat_lit 3) [] [] (lkLoad1 g40) p41 
(dLook (nat_lit 4) [] [] (lkLoadN (nat_lit 32) g3) p42 
(dTurn (nat_lit 5) [] [] true (xCall g41 [g42]) p43 (dEnd [(nat_lit 38), (nat_lit 39), (nat_lit 40), (nat_lit 41), (nat_lit 42), (nat_lit 43)])))))))) (kSeq (oSet (xLook (lkLoadN (nat_lit 3) g8)) p44 
(oDo (xTurn (tnStore (nat_lit 3) g4 g44)) 
(oSet (xMove q2) p5 
oEnd))) kRet)))))))⟩
def q195 : OpdF := kC (.func (.func (nat_lit 239)) ⟨[]⟩ ⟨[]⟩)
def q196 : OpdF := kC (.func (.func (nat_lit 240)) ⟨[]⟩ ⟨[]⟩)
def q197 : OpdF := kC (.func (.func (nat_lit 241)) ⟨[]⟩ ⟨[]⟩)
noncomputable def k177 : KFun := ⟨[rTmp (nat_lit 8) g8], (kSeq (oSet (xTurn (tnBox g1)) p5 
(oSet (xTurn (tnBox g2)) p6 
(oSet (xMove q0) p8 
oEnd))) (kSeq (kSeq (oSet (xLook (lkFieldAddr (nat_lit 1) g5)) p14 
(oSet (xLook (lkLoad1 g14)) p15 
(oSet (xLook (lkLen .sl g15)) p16 
(oSet (xMove q16) p17 
oEnd)))) (kBlock (nat_lit 0) (kLoop (kSeq (oSet (xLook (lkBin .lss g17 g16)) p18 
oEnd) (kSeq (kCond g18 kSkip (kExit (nat_lit 0))) (kSeq (kBlock (nat_lit 1) (kSeq (oSet (xLook (lkIxSl (nat_lit 2) g15 g17)) p19 
(oSet (xLook (lkLoadN (nat_lit 2) g19)) p20 
(oSet (xTurn (tnAlloc q53)) p10 
(oDo (xTurn (tnStore (nat_lit 2) g10 g20)) 
oEnd)))) (kSeq (oSet (xLook (lkLoadN (nat_lit 2) g6)) p21 
(oSet (xLook (lkFieldAddr (nat_lit 0) g10)) p22 
(oSet (xLook (lkLoad1 g22)) p23 
(oSet (xCall q195 [g21, g23]) p24 
(oSet (xMove g24) p25 
(oSetIf (wantT g25) (xMove g3) p26 
(oSetIf (wantT g25) (xLook (lkLoadN (nat_lit 2) g10)) p27 
(oSetIf (wantT g25) (xCall g26 [g27]) p28 
(oSetIf (wantT g25) (xLook (lkUn .not g28)) p29 
(oSet (xLook (lkPick g25 g29 q0)) p30 
oEnd)))))))))) (kCond g30 (kSeq (oSet (xMove q0) p8 
oEnd) kRet) kSkip)))) (oSet (xLook (lkBin .add g17 q11)) p31 
(oSet (xMove g31) p17 
oEnd)))))))) (kSeq (kSeq (oSet (xLook (lkFieldAddr (nat_lit 2) g5)) p32 
(oSet (xLook (lkLoad1 g32)) p33 
(oSet (xLook (lkLen .sl g33)) p34 
(oSet (xMove q16) p35 
oEnd)))) (kBlock (nat_lit 2) (kLoop (kSeq (oSet (xLook (lkBin .lss g35 g34)) p36 
oEnd) (kSeq (kCond g36 kSkip (kExit (nat_lit 2))) (kSeq (kBlock (nat_lit 3) (kSeq (oSet (xMove g35) p37 
(oSet (xLook (lkIxSl (nat_lit 34) g33 g35)) p38 
(oSet (xLook (lkLoadN (nat_lit 34) g38)) p39 
(oSet (xTurn (tnAlloc q184)) p12 
(oSet (xMove g37) p11 
(oDo (xTurn (tnStore (nat_lit 34) g12 g39)) 
oEnd)))))) (kSeq (oSet (xLook (lkFieldAddr (nat_lit 0) g12)) p40 
(oSet (xLook (lkLoad1 g40)) p41 
(oSet (xLook (lkBuild q53 [((nat_lit 0), (nat_lit 1), g41)])) p42 
(oSet (xTurn (tnAlloc q53)) p13 
(oDo (xTurn (tnStore (nat_lit 2) g13 g42)) 
oEnd))))) (kSeq (kSeq (oSet (xMove g11) p43 
(oSet (xLook (lkBin .add g43 q11)) p44 
(oSet (xLook (lkFieldAddr (nat_lit 2) g5)) p45 
(oSet (xLook (lkLoad1 g45)) p46 
(oSet (xLook (lkLen .sl g46)) p47 
(oSet (xLook (lkBin .lss g44 g47)) p48 
oEnd)))))) (kCond g48 (oSet (xLook (lkFieldAddr (nat_lit 2) g5)) p49 
(oSet (xLook (lkLoad1 g49)) p50 
(oSet (xMove g11) p51 
(oSet (xLook (lkBin .add g51 q11)) p52 
(oSet (xLook (lkIxSl (nat_lit 34) g50 g52)) p53 
(oSet (xLook (lkFieldAddr (nat_lit 0) g53)) p54 
(oSet (xLook (lkLoad1 g54)) p55 
(oSet (xLook (lkFieldAddr (nat_lit 1) g13)) p56 
(oDo (xTurn (tnStore (nat_lit 1) g56 g55)) 
oEnd))))))))) kSkip)) (kSeq (oSet (xLook (lkLoadN (nat_lit 2) g6)) p57 
(oSet (xLook (lkLoadN (nat_lit 2) g13)) p58 
(oSet (xCall q196 [g57, g58]) p59 
(oSet (xMove g59) p60 
(oSetIf (wantT g60) (xMove g0) p61 
(oSetIf (wantT g60) (xLook (lkLoadN (nat_lit 34) g12)) p62 
(oSetIf (wantT g60) (xLook (lkFieldAddr (nat_lit 0) g5)) p63 
(oSetIf (wantT g60) (xLook (lkLoad1 g63)) p64 
(oSetIf (wantT g60) (xLook (lkLoadN (nat_lit 2) g6)) p65 
(oSetIf (wantT g60) (xMove g3) p66 
(oSetIf (wantT g60) (xCall q197 [g61, g62, g64, g65, g66]) p67 
(oSetIf (wantT g60) (xLook (lkUn .not g67)) p68 
(oSet (xLook (lkPick g60 g68 q0)) p69 
oEnd))))))))))))) (kCond g69 (kSeq (oSet (xMove q0) p8 
oEnd) kRet) kSkip)))))) (oSet (xLook (lkBin .add g35 q11)) p70 
(oSet (xMove g70) p35 
oEnd)))))))) (kSeq (oSet (xMove q2) p8 
oEnd) kRet))))⟩
noncomputable def k178 : KFun := ⟨[rTmp (nat_lit 2) g2], (kSeq (oSet (xTurn (tnBox g0)) p1 
(oSet (xMove q0) p2 
oEnd)) (kSeq (oSet (xLook (lkFieldAddr (nat_lit 0) g1)) p3 
(oSet (xLook (lkLoad1 g3)) p4 
(oSet (xCall q120 [g4]) p5 
(oSet (xMove g5) p6 
(oSetIf (wantT g6) (xLook (lkFieldAddr (nat_lit 1) g1)) p7 
(oSetIf (wantT g6) (xLook (lkLoad1 g7)) p8 
(oSetIf (wantT g6) (xLook (lkLen .str g8)) p9 
(oSetIf (wantT g6) (xLook (lkBin .leq g9 q86)) p10 
(oSet (xLook (lkPick g6 g10 q0)) p11 
(oSet (xMove g11) p12 
(oSetIf (wantT g12) (xLook (lkFieldAddr (nat_lit 2) g1)) p13 
(oSetIf (wantT g12) (xLook (lkLoad1 g13)) p14 
(oSetIf (wantT g12) (xLook (lkUn .not g14)) p15 
(oSetIf (wantT g12) (xMove g15) p16 
(oSetIf (wantF g16) (xLook (lkFieldAddr (nat_lit 1) g1)) p17 
(oSetIf (wantF g16) (xLook (lkLoad1 g17)) p18 
(oSetIf (wantF g16) (xLook (lkEq false .str g18 q50)) p19 
(oSetIf (wantT g12) (xLook (lkPick g16 q2 g19)) p20 
(oSet (xLook (lkPick g12 g20 q0)) p21 
(oSet (xMove g21) p2 
oEnd)))))))))))))))))))) kRet))⟩
noncomputable def k179 : KFun := ⟨[], (kSeq (oSet (xTurn (tnBox g0)) p2 
(oSet (xTurn (tnBox g1)) p3 
oEnd)) (kSeq (kSeq (oSet (xLook (lkFieldAddr (nat_lit 2) g3)) p4 
(oSet (xLook (lkLoad1 g4)) p5 
oEnd)) (kCond g5 (kSeq (oSet (xLook (lkFieldAddr (nat_lit 0) g2)) p6 
(oSet (xLook (lkLoad1 g6)) p7 
(oSet (xLook (lkFieldAddr (nat_lit 0) g3)) p8 
(oSet (xLook (lkLoad1 g8)) p9 
(oDo (xTurn (tnDelete (.one .str) g7 g9)) 
oEnd))))) kRet) kSkip)) (oSet (xLook (lkFieldAddr (nat_lit 0) g2)) p10 
(oSet (xLook (lkLoad1 g10)) p11 
(oSet (xLook (lkFieldAddr (nat_lit 0) g3)) p12 
(oSet (xLook (lkLoad1 g12)) p13 
(oSet (xLook (lkFieldAddr (nat_lit 1) g3)) p14 
(oSet (xLook (lkLoad1 g14)) p15 
(oSet (xLook (lkBuild q127 [((nat_lit 0), (nat_lit 1), g15)])) p16 
(oDo (xTurn (tnMapUpdate (.one .str) g11 g13 g16)) 
oEnd))))))))))⟩
def q198 : OpdF := kC (.func (.func (nat_lit 243)) ⟨[]⟩ ⟨[]⟩)
def q199 : OpdF := kC (.func (.func (nat_lit 242)) ⟨[]⟩ ⟨[]⟩)
noncomputable def k180 : KFun := ⟨[rTmp (nat_lit 2) g2], (kSeq (oSet (xTurn (tnBox g0)) p1 
(oSet (xMove q5) p2 
oEnd)) (kSeq (oSet (xMove q5) p3 
oEnd) (kSeq (kSeq (oSet (xLook (lkFieldAddr (nat_lit 0) g1)) p6 
(oSet (xLook (lkLoad1 g6)) p7 
(oSet (xCall q198 [g7]) p8 
(oSet (xCall q199 [g8]) p9 
(oSet (xLook (lkLen .sl g9)) p10 
(oSet (xMove q16) p11 
oEnd)))))) (kBlock (nat_lit 0) (kLoop (kSeq (oSet (xLook (lkBin .lss g11 g10)) p12 
oEnd) (kSeq (kCond g12 kSkip (kExit (nat_lit 0))) (kSeq (kBlock (nat_lit 1) (kSeq (oSet (xLook (lkIxSl (nat_lit 1) g9 g11)) p13 
(oSet (xLook (lkLoad1 g13)) p14 
(oSet (xMove g14) p5 
oEnd))) (oSet (xMove g3) p15 
(oSet (xMove g5) p16 
(oSet (xLook (lkFieldAddr (nat_lit 0) g1)) p17 
(oSet (xLook (lkLoad1 g17)) p18 
(oSet (xMove g5) p19 
(oSet (xLook (lkLookup (.one .str) (.agg ⟨[(.string ⟨⟨[]⟩⟩)]⟩) false g18 g19)) p20 
(oSet (xLook (lkField1 (nat_lit 0) g20)) p21 
(oSet (xLook (lkBuild q53 [((nat_lit 0), (nat_lit 1), g16), ((nat_lit 1), (nat_lit 1), g21)])) p22 
(oSet (xTurn (tnBuildSlice q53 [((nat_lit 0), (nat_lit 2), g22)] (nat_lit 1))) p23 
(oSet (xTurn (tnAppend (nat_lit 2) g15 g23)) p24 
(oSet (xMove g24) p3 
oEnd))))))))))))) (oSet (xLook (lkBin .add g11 q11)) p25 
(oSet (xMove g25) p11 
oEnd)))))))) (kSeq (oSet (xMove g3) p26 
(oSet (xMove g26) p2 
oEnd)) kRet))))⟩
def q200 : OpdF := kC (.func (.func (nat_lit 142)) ⟨[]⟩ ⟨[]⟩)
noncomputable def k183 : KFun := ⟨[], (kSeq (kSeq (oSet (xMove g0) p4 
(oSet (xCall q160 [g4]) p5 
oEnd)) (kCond g5 kRet kSkip)) (kSeq (oSet (xMove g0) p6 
(oSet (xMove g1) p7 
(oSet (xLook (lkLen .str g7)) p8 
(oSet (xCall q200 [g6, g8]) p9 
oEnd)))) (oSet (xMove g0) p10 
(oSet (xMove g0) p11 
(oSet (xNil g11) p12 
(oSet (xLook (lkFieldAddr (nat_lit 0) g12)) p13 
(oSet (xLook (lkFieldAddr (nat_lit 1) g13)) p14 
(oSet (xLook (lkLoad1 g14)) p15 
(oSet (xMove g1) p16 
(oSet (xTurn (tnAppend (nat_lit 1) g15 g16)) p17 
(oSet (xNil g10) p18 
(oSet (xLook (lkFieldAddr (nat_lit 0) g18)) p19 
(oSet (xLook (lkFieldAddr (nat_lit 1) g19)) p20 
(oDo (xTurn (tnStore (nat_lit 1) g20 g17)) 
oEnd))))))))))))))⟩
def q201 : OpdF := kC (.int .u32 (.ofNat (nat_lit 65536)))
def q202 : OpdF := kC (.int .u32 (.ofNat (nat_lit 256)))
def q203 : OpdF := kC (.string ⟨⟨[0, 1, 2, 2, 3, 3, 3, 3, 4, 4, 4, 4, 4, 4, 4, 4, 5, 5, 5, 5, 5, 5, 5, 5, 5, 5, 5, 5, 5, 5, 5, 5, 6, 6, 6, 6, 6, 6, 6, 6, 6, 6, 6, 6, 6, 6, 6, 6, 6, 6, 6, 6, 6, 6, 6, 6, 6, 6, 6, 6, 6, 6, 6, 6, 7, 7, 7, 7, 7, 7, 7, 7, 7, 7, 7, 7, 7, 7, 7, 7, 7, 7, 7, 7, 7, 7, 7, 7, 7, 7, 7, 7, 7, 7, 7, 7, 7, 7, 7, 7, 7, 7, 7, 7, 7, 7, 7, 7, 7, 7, 7, 7, 7, 7, 7, 7, 7, 7, 7, 7, 7, 7, 7, 7, 7, 7, 7, 7, 8, 8, 8, 8, 8, 8, 8, 8, 8, 8, 8, 8, 8, 8, 8, 8, 8, 8, 8, 8, 8, 8, 8, 8, 8, 8, 8, 8, 8, 8, 8, 8, 8, 8, 8, 8, 8, 8, 8, 8, 8, 8, 8, 8, 8, 8, 8, 8, 8, 8, 8, 8, 8, 8, 8, 8, 8, 8, 8, 8, 8, 8, 8, 8, 8, 8, 8, 8, 8, 8, 8, 8, 8, 8, 8, 8, 8, 8, 8, 8, 8, 8, 8, 8, 8, 8, 8, 8, 8, 8, 8, 8, 8, 8, 8, 8, 8, 8, 8, 8, 8, 8, 8, 8, 8, 8, 8, 8, 8, 8, 8, 8, 8, 8, 8, 8, 8, 8, 8, 8, 8, 8, 8, 8, 8, 8, 8, 8]⟩⟩)
noncomputable def k203 : KFun := ⟨[rTmp (nat_lit 2) g2], (kSeq (oSet (xMove q16) p2 
oEnd) (kSeq (kSeq (oSet (xMove g0) p3 
(oSet (xLook (lkBin .geq g3 q201)) p4 
oEnd)) (kCond g4 (kSeq (oSet (xMove g0) p5 
(oSet (xLook (lkBin .shr g5 q145)) p6 
(oSet (xMove g6) p0 
oEnd))) (oSet (xMove q144) p2 
oEnd)) kSkip)) (kSeq (kSeq (oSet (xMove g0) p7 
(oSet (xLook (lkBin .geq g7 q202)) p8 
oEnd)) (kCond g8 (kSeq (oSet (xMove g0) p9 
(oSet (xLook (lkBin .shr g9 q91)) p10 
(oSet (xMove g10) p0 
oEnd))) (oSet (xMove g2) p11 
(oSet (xLook (lkBin .add g11 q20)) p12 
(oSet (xMove g12) p2 
oEnd)))) kSkip)) (kSeq (oSet (xMove g2) p13 
(oSet (xMove g0) p14 
(oSet (xLook (lkIntTo .u8 g14)) p15 
(oSet (xLook (lkIxStr q203 g15)) p16 
(oSet (xLook (lkIntTo .i64 g16)) p17 
(oSet (xLook (lkBin .add g13 g17)) p18 
(oSet (xMove g18) p2 
oEnd))))))) kRet))))⟩
def q204 : OpdF := kC (.int .u64 (.ofNat (nat_lit 4294967296)))
def q205 : OpdF := kC (.int .u64 (.ofNat (nat_lit 32)))
def q206 : OpdF := kC (.int .u64 (.ofNat (nat_lit 65536)))
def q207 : OpdF := kC (.int .u64 (.ofNat (nat_lit 256)))
noncomputable def k204 : KFun := ⟨[rTmp (nat_lit 2) g2], (kSeq (oSet (xMove q16) p2 
oEnd) (kSeq (kSeq (oSet (xMove g0) p3 
(oSet (xLook (lkBin .geq g3 q204)) p4 
oEnd)) (kCond g4 (kSeq (oSet (xMove g0) p5 
(oSet (xLook (lkBin .shr g5 q205)) p6 
(oSet (xMove g6) p0 
oEnd))) (oSet (xMove q179) p2 
oEnd)) kSkip)) (kSeq (kSeq (oSet (xMove g0) p7 
(oSet (xLook (lkBin .geq g7 q206)) p8 
oEnd)) (kCond g8 (kSeq (oSet (xMove g0) p9 
(oSet (xLook (lkBin .shr g9 q145)) p10 
(oSet (xMove g10) p0 
oEnd))) (oSet (xMove g2) p11 
(oSet (xLook (lkBin .add g11 q144)) p12 
(oSet (xMove g12) p2 
oEnd)))) kSkip)) (kSeq (kSeq (oSet (xMove g0) p13 
(oSet (xLook (lkBin .geq g13 q207)) p14 
oEnd)) (kCond g14 (kSeq (oSet (xMove g0) p15 
(oSet (xLook (lkBin .shr g15 q91)) p16 
(oSet (xMove g16) p0 
oEnd))) (oSet (xMove g2) p17 
(oSet (xLook (lkBin .add g17 q20)) p18 
(oSet (xMove g18) p2 
oEnd)))) kSkip)) (kSeq (oSet (xMove g2) p19 
(oSet (xMove g0) p20 
(oSet (xLook (lkIntTo .u8 g20)) p21 
(oSet (xLook (lkIxStr q203 g21)) p22 
(oSet (xLook (lkIntTo .i64 g22)) p23 
(oSet (xLook (lkBin .add g19 g23)) p24 
(oSet (xMove g24) p2 
oEnd))))))) kRet)))))⟩
def q208 : OpdF := kC (.int .u32 (.ofNat (nat_lit 0)))
def q209 : OpdF := kC (.func (.func (nat_lit 261)) ⟨[]⟩ ⟨[]⟩)
noncomputable def k205 : KFun := ⟨[rTmp (nat_lit 4) g4], (kSeq (oSet (xMove q208) p4 
oEnd) (kSeq (oSet (xMove g0) p5 
(oSet (xMove g1) p6 
(oSet (xLook (lkUn .neg g6)) p7 
(oSet (xCall q209 [g5, g7]) p8 
(oSet (xMove g8) p4 
oEnd))))) kRet))⟩
def q210 : OpdF := kC (.int .u32 (.ofNat (nat_lit 1116352408)))
def q211 : OpdF := kC (.int .u32 (.ofNat (nat_lit 1899447441)))
def q212 : OpdF := kC (.int .u32 (.ofNat (nat_lit 3049323471)))
def q213 : OpdF := kC (.int .u32 (.ofNat (nat_lit 3921009573)))
def q214 : OpdF := kC (.int .u32 (.ofNat (nat_lit 961987163)))
def q215 : OpdF := kC (.int .u32 (.ofNat (nat_lit 1508970993)))
def q216 : OpdF := kC (.int .u32 (.ofNat (nat_lit 2453635748)))
def q217 : OpdF := kC (.int .u32 (.ofNat (nat_lit 2870763221)))
def q218 : OpdF := kC (.int .u32 (.ofNat (nat_lit 3624381080)))
def q219 : OpdF := kC (.int .u32 (.ofNat (nat_lit 310598401)))
def q220 : OpdF := kC (.int .u32 (.ofNat (nat_lit 607225278)))
def q221 : OpdF := kC (.int .u32 (.ofNat (nat_lit 1426881987)))
def q222 : OpdF := kC (.int .u32 (.ofNat (nat_lit 1925078388)))
def q223 : OpdF := kC (.int .u32 (.ofNat (nat_lit 2162078206)))
def q224 : OpdF := kC (.int .u32 (.ofNat (nat_lit 2614888103)))
def q225 : OpdF := kC (.int .u32 (.ofNat (nat_lit 3248222580)))
def q226 : OpdF := kC (.int .u32 (.ofNat (nat_lit 3835390401)))
def q227 : OpdF := kC (.int .u32 (.ofNat (nat_lit 4022224774)))
def q228 : OpdF := kC (.int .u32 (.ofNat (nat_lit 264347078)))
def q229 : OpdF := kC (.int .u32 (.ofNat (nat_lit 604807628)))
def q230 : OpdF := kC (.int .u32 (.ofNat (nat_lit 770255983)))
def q231 : OpdF := kC (.int .u32 (.ofNat (nat_lit 1249150122)))
def q232 : OpdF := kC (.int .u32 (.ofNat (nat_lit 1555081692)))
def q233 : OpdF := kC (.int .u32 (.ofNat (nat_lit 1996064986)))
def q234 : OpdF := kC (.int .u32 (.ofNat (nat_lit 2554220882)))
def q235 : OpdF := kC (.int .u32 (.ofNat (nat_lit 2821834349)))
def q236 : OpdF := kC (.int .u32 (.ofNat (nat_lit 2952996808)))
def q237 : OpdF := kC (.int .u32 (.ofNat (nat_lit 3210313671)))
def q238 : OpdF := kC (.int .u32 (.ofNat (nat_lit 3336571891)))
def q239 : OpdF := kC (.int .u32 (.ofNat (nat_lit 3584528711)))
def q240 : OpdF := kC (.int .u32 (.ofNat (nat_lit 113926993)))
def q241 : OpdF := kC (.int .u32 (.ofNat (nat_lit 338241895)))
def q242 : OpdF := kC (.int .u32 (.ofNat (nat_lit 666307205)))
def q243 : OpdF := kC (.int .u32 (.ofNat (nat_lit 773529912)))
def q244 : OpdF := kC (.int .u32 (.ofNat (nat_lit 1294757372)))
def q245 : OpdF := kC (.int .u32 (.ofNat (nat_lit 1396182291)))
def q246 : OpdF := kC (.int .u32 (.ofNat (nat_lit 1695183700)))
def q247 : OpdF := kC (.int .u32 (.ofNat (nat_lit 1986661051)))
def q248 : OpdF := kC (.int .u32 (.ofNat (nat_lit 2177026350)))
def q249 : OpdF := kC (.int .u32 (.ofNat (nat_lit 2456956037)))
def q250 : OpdF := kC (.int .u32 (.ofNat (nat_lit 2730485921)))
def q251 : OpdF := kC (.int .u32 (.ofNat (nat_lit 2820302411)))
def q252 : OpdF := kC (.int .u32 (.ofNat (nat_lit 3259730800)))
def q253 : OpdF := kC (.int .u32 (.ofNat (nat_lit 3345764771)))
def q254 : OpdF := kC (.int .u32 (.ofNat (nat_lit 3516065817)))
def q255 : OpdF := kC (.int .u32 (.ofNat (nat_lit 3600352804)))
def q256 : OpdF := kC (.int .u32 (.ofNat (nat_lit 4094571909)))
def q257 : OpdF := kC (.int .u32 (.ofNat (nat_lit 275423344)))
def q258 : OpdF := kC (.int .u32 (.ofNat (nat_lit 430227734)))
def q259 : OpdF := kC (.int .u32 (.ofNat (nat_lit 506948616)))
def q260 : OpdF := kC (.int .u32 (.ofNat (nat_lit 659060556)))
def q261 : OpdF := kC (.int .u32 (.ofNat (nat_lit 883997877)))
def q262 : OpdF := kC (.int .u32 (.ofNat (nat_lit 958139571)))
def q263 : OpdF := kC (.int .u32 (.ofNat (nat_lit 1322822218)))
def q264 : OpdF := kC (.int .u32 (.ofNat (nat_lit 1537002063)))
def q265 : OpdF := kC (.int .u32 (.ofNat (nat_lit 1747873779)))
def q266 : OpdF := kC (.int .u32 (.ofNat (nat_lit 1955562222)))
def q267 : OpdF := kC (.int .u32 (.ofNat (nat_lit 2024104815)))
def q268 : OpdF := kC (.int .u32 (.ofNat (nat_lit 2227730452)))
def q269 : OpdF := kC (.int .u32 (.ofNat (nat_lit 2361852424)))
def q270 : OpdF := kC (.int .u32 (.ofNat (nat_lit 2428436474)))
def q271 : OpdF := kC (.int .u32 (.ofNat (nat_lit 2756734187)))
def q272 : OpdF := kC (.int .u32 (.ofNat (nat_lit 3204031479)))
def q273 : OpdF := kC (.int .u32 (.ofNat (nat_lit 3329325298)))
noncomputable def k206 : KFun := ⟨[rCellN (nat_lit 0) g0 (nat_lit 64)], (kSeq (oSet (xTurn (tnAlloc q143)) p0 
oEnd) (kSeq (oSet (xLook (lkBuild q143 [((nat_lit 0), (nat_lit 1), q210), ((nat_lit 1), (nat_lit 1), q211), ((nat_lit 2), (nat_lit 1), q212), ((nat_lit 3), (nat_lit 1), q213), ((nat_lit 4), (nat_lit 1), q214), ((nat_lit 5), (nat_lit 1), q215), ((nat_lit 6), (nat_lit 1), q216), ((nat_lit 7), (nat_lit 1), q217), ((nat_lit 8), (nat_lit 1), q218), ((nat_lit 9), (nat_lit 1), q219), ((nat_lit 10), (nat_lit 1), q220), ((nat_lit 11), (nat_lit 1), q221), ((nat_lit 12), (nat_lit 1), q222), ((nat_lit 13), (nat_lit 1), q223), ((nat_lit 14), (nat_lit 1), q224), ((nat_lit 15), (nat_lit 1), q225), ((nat_lit 16), (nat_lit 1), q226), ((nat_lit 17), (nat_lit 1), q227), ((nat_lit 18), (nat_lit 1), q228), ((nat_lit 19), (nat_lit 1), q229), ((nat_lit 20), (nat_lit 1), q230), ((nat_lit 21), (nat_lit 1), q231), ((nat_lit 22), (nat_lit 1), q232), ((nat_lit 23), (nat_lit 1), q233), ((nat_lit 24), (nat_lit 1), q234), ((nat_lit 25), (nat_lit 1), q235), ((nat_lit 26), (nat_lit 1), q236), ((nat_lit 27), (nat_lit 1), q237), ((nat_lit 28), (nat_lit 1), q238), ((nat_lit 29), (nat_lit 1), q239), ((nat_lit 30), (nat_lit 1), q240), ((nat_lit 31), (nat_lit 1), q241), ((nat_lit 32), (nat_lit 1), q242), ((nat_lit 33), (nat_lit 1), q243), ((nat_lit 34), (nat_lit 1), q244), ((nat_lit 35), (nat_lit 1), q245), ((nat_lit 36), (nat_lit 1), q246), ((nat_lit 37), (nat_lit 1), q247), ((nat_lit 38), (nat_lit 1), q248), ((nat_lit 39), (nat_lit 1), q249), ((nat_lit 40), (nat_lit 1), q250), ((nat_lit 41), (nat_lit 1), q251), ((nat_lit 42), (nat_lit 1), q252), ((nat_lit 43), (nat_lit 1), q253), ((nat_lit 44), (nat_lit 1), q254), ((nat_lit 45), (nat_lit 1), q255), ((nat_lit 46), (nat_lit 1), q256), ((nat_lit 47), (nat_lit 1), q257), ((nat_lit 48), (nat_lit 1), q258), ((nat_lit 49), (nat_lit 1), q259), ((nat_lit 50), (nat_lit 1), q260), ((nat_lit 51), (nat_lit 1), q261), ((nat_lit 52), (nat_lit 1), q262), ((nat_lit 53), (nat_lit 1), q263), ((nat_lit 54), (nat_lit 1), q264), ((nat_lit 55), (nat_lit 1), q265), ((nat_lit 56), (nat_lit 1), q266), ((nat_lit 57), (nat_lit 1), q267), ((nat_lit 58), (nat_lit 1), q268), ((nat_lit 59), (nat_lit 1), q269), ((nat_lit 60), (nat_lit 1), q270), ((nat_lit 61), (nat_lit 1), q271), ((nat_lit 62), (nat_lit 1), q272), ((nat_lit 63), (nat_lit 1), q273)])) p1 
(oDo (xTurn (tnStore (nat_lit 64) g0 g1)) 
oEnd)) kRet))⟩
noncomputable def k207 : KFun := ⟨[rTmp (nat_lit 2) g2], (kSeq (oSet (xMove q0) p2 
oEnd) (kSeq (oSet (xMove g0) p3 
(oSet (xLook (lkEq false .ptr g3 q4)) p4 
(oSet (xMove g4) p5 
(oSetIf (wantF g5) (xMove g0) p6 
(oSetIf (wantF g5) (xNil g6) p7 
(oSetIf (wantF g5) (xLook (lkFieldAddr (nat_lit 0) g7)) p8 
(oSetIf (wantF g5) (xCall q171 [g8]) p9 
(oSet (xLook (lkPick g5 q2 g9)) p10 
(oSet (xMove g10) p2 
oEnd))))))))) kRet))⟩
noncomputable def k208 : KFun := ⟨[rTmp (nat_lit 4) g4], (kSeq (oSet (xMove q16) p4 
oEnd) (kSeq (kSeq (oSet (xMove g0) p6 
(oSet (xLook (lkLen .sl g6)) p7 
(oSet (xMove q16) p8 
oEnd))) (kBlock (nat_lit 0) (kLoop (kSeq (oSet (xLook (lkBin .lss g8 g7)) p9 
oEnd) (kSeq (kCond g9 kSkip (kExit (nat_lit 0))) (kSeq (kBlock (nat_lit 1) (kSeq (oSet (xMove g8) p10 
(oSet (xMove g10) p5 
oEnd)) (kSeq (oSet (xMove g1) p11 
(oSet (xMove g0) p12 
(oSet (xMove g5) p13 
(oSet (xLook (lkIxSl (nat_lit 2) g12 g13)) p14 
(oSet (xLook (lkLoadN (nat_lit 2) g14)) p15 
(oSet (xCall g11 [g15]) p16 
oEnd)))))) (kCond g16 (kSeq (oSet (xMove g5) p17 
(oSet (xMove g17) p4 
oEnd)) kRet) kSkip)))) (oSet (xLook (lkBin .add g8 q11)) p18 
(oSet (xMove g18) p8 
oEnd)))))))) (kSeq (oSet (xMove q78) p4 
oEnd) kRet)))⟩
noncomputable def k209 : KFun := ⟨[rTmp (nat_lit 3) g3], (kSeq (oSet (xTurn (tnBox g0)) p2 
(oSet (xMove q0) p3 
oEnd)) (kSeq (oSet (xLook (lkFieldAddr (nat_lit 1) g2)) p4 
(oSet (xLook (lkLoad1 g4)) p5 
(oSet (xLook (lkLoad1 g1)) p6 
(oSet (xLook (lkBin .geq g5 g6)) p7 
(oSet (xMove g7) p3 
oEnd))))) kRet))⟩
def q274 : OpdF := kC (.func (.func (nat_lit 263)) ⟨[]⟩ ⟨[]⟩)
def q275 : OpdF := kC (.func (.func (nat_lit 262)) ⟨[]⟩ ⟨[]⟩)
def q276 : OpdF := kC (.func (.func (nat_lit 264)) ⟨[]⟩ ⟨[]⟩)
noncomputable def k210 : KFun := ⟨[rTmp (nat_lit 8) g8], (kSeq (oSet (xMove q5) p8 
oEnd) (kSeq (oSet (xMove g0) p12 
(oSet (xMove g1) p13 
(oSet (xLook (lkIxSl (nat_lit 2) g12 g13)) p14 
(oSet (xLook (lkLoadN (nat_lit 2) g14)) p15 
(oSet (xTurn (tnAlloc q26)) p9 
(oDo (xTurn (tnStore (nat_lit 2) g9 g15)) 
oEnd)))))) (kSeq (oSet (xMove q5) p10 
oEnd) (kSeq (kSeq (oSet (xMove g2) p16 
(oSet (xLook (lkFieldAddr (nat_lit 0) g9)) p17 
(oSet (xLook (lkLoad1 g17)) p18 
(oSet (xLook (lkBin .gtr g16 g18)) p19 
oEnd)))) (kCond g19 (oSet (xMove g10) p20 
(oSet (xLook (lkFieldAddr (nat_lit 0) g9)) p21 
(oSet (xLook (lkLoad1 g21)) p22 
(oSet (xMove g2) p23 
(oSet (xLook (lkFieldAddr (nat_lit 0) g9)) p24 
(oSet (xLook (lkLoad1 g24)) p25 
(oSet (xLook (lkBin .sub g23 g25)) p26 
(oSet (xLook (lkBuild q26 [((nat_lit 0), (nat_lit 1), g22), ((nat_lit 1), (nat_lit 1), g26)])) p27 
(oSet (xTurn (tnBuildSlice q26 [((nat_lit 0), (nat_lit 2), g27)] (nat_lit 1))) p28 
(oSet (xTurn (tnAppend (nat_lit 2) g20 g28)) p29 
(oSet (xMove g29) p10 
oEnd))))))))))) kSkip)) (kSeq (kSeq (oSet (xMove g2) p30 
(oSet (xMove g3) p31 
(oSet (xLook (lkBin .add g30 g31)) p32 
(oSet (xLook (lkLoadN (nat_lit 2) g9)) p33 
(oSet (xCall q175 [g33]) p34 
(oSet (xLook (lkBin .lss g32 g34)) p35 
oEnd)))))) (kCond g35 (oSet (xMove g10) p36 
(oSet (xMove g2) p37 
(oSet (xMove g3) p38 
(oSet (xLook (lkBin .add g37 g38)) p39 
(oSet (xLook (lkLoadN (nat_lit 2) g9)) p40 
(oSet (xCall q175 [g40]) p41 
(oSet (xMove g2) p42 
(oSet (xLook (lkBin .sub g41 g42)) p43 
(oSet (xMove g3) p44 
(oSet (xLook (lkBin .sub g43 g44)) p45 
(oSet (xLook (lkBuild q26 [((nat_lit 0), (nat_lit 1), g39), ((nat_lit 1), (nat_lit 1), g45)])) p46 
(oSet (xTurn (tnBuildSlice q26 [((nat_lit 0), (nat_lit 2), g46)] (nat_lit 1))) p47 
(oSet (xTurn (tnAppend (nat_lit 2) g36 g47)) p48 
(oSet (xMove g48) p10 
oEnd)))))))))))))) kSkip)) (kSeq (oSet (xMove g0) p49 
(oSet (xCall q274 [g49]) p50 
(oSet (xMove g1) p51 
(oSet (xMove g1) p52 
(oSet (xLook (lkBin .add g52 q11)) p53 
(oSet (xCall q275 [g50, g51, g53]) p54 
(oSet (xMove g54) p11 
oEnd))))))) (kSeq (oSet (xMove g11) p55 
(oSet (xMove g1) p56 
(oSet (xMove g10) p57 
(oSet (xCall q276 [g55, g56, g57]) p58 
(oSet (xMove g58) p8 
oEnd))))) kRet)))))))⟩
def q277 : OpdF := kC (.int .u8 (.ofNat (nat_lit 82)))
def q278 : OpdF := kC (.int .u8 (.ofNat (nat_lit 67)))
def q279 : OpdF := kC (.int .i64 (.ofNat (nat_lit 50)))
def q280 : OpdF := kC (.int .i64 (.ofNat (nat_lit 14)))
def q281 : List Value := [(.slice none (nat_lit 0) (nat_lit 0)), (.int .i64 (.ofNat (nat_lit 0))), (.int .u8 (.ofNat (nat_lit 0))), (.int .u8 (.ofNat (nat_lit 0))), (.int .u8 (.ofNat (nat_lit 0))), (.int .u8 (.ofNat (nat_lit 0))), (.int .u8 (.ofNat (nat_lit 0))), (.int .u8 (.ofNat (nat_lit 0))), (.int .u8 (.ofNat (nat_lit 0))), (.int .u8 (.ofNat (nat_lit 0))), (.int .u8 (.ofNat (nat_lit 0))), (.int .u8 (.ofNat (nat_lit 0))), (.int .u8 (.ofNat (nat_lit 0))), (.int .u8 (.ofNat (nat_lit 0))), (.int .u8 (.ofNat (nat_lit 0))), (.int .u8 (.ofNat (nat_lit 0))), (.int .u8 (.ofNat (nat_lit 0))), (.int .u8 (.ofNat (nat_lit 0))), (.int .u8 (.ofNat (nat_lit 0))), (.int .u8 (.ofNat (nat_lit 0))), (.int .u8 (.ofNat (nat_lit 0))), (.int .u8 (.ofNat (nat_lit 0))), (.int .u8 (.ofNat (nat_lit 0))), (.int .u8 (.ofNat (nat_lit 0))), (.int .u8 (.ofNat (nat_lit 0))), (.int .u8 (.ofNat (nat_lit 0))), (.int .u8 (.ofNat (nat_lit 0))), (.int .u8 (.ofNat (nat_lit 0))), (.int .u8 (.ofNat (nat_lit 0))), (.int .u8 (.ofNat (nat_lit 0))), (.int .u8 (.ofNat (nat_lit 0))), (.int .u8 (.ofNat (nat_lit 0))), (.int .u8 (.ofNat (nat_lit 0))), (.int .u8 (.ofNat (nat_lit 0))), (.int .i64 (.ofNat (nat_lit 0))), (.int .i64 (.ofNat (nat_lit 0)))]
def q282 : OpdF := kC (.int .u8 (.ofNat (nat_lit 0)))
def q283 : OpdF := kC (.func (.func (nat_lit 271)) ⟨[]⟩ ⟨[]⟩)
def q284 : OpdF := kC (.func (.func (nat_lit 269)) ⟨[]⟩ ⟨[]⟩)
noncomputable def k218 : KFun := ⟨[rCellN (nat_lit 2) g2 (nat_lit 35), rTmp (nat_lit 3) g3], (kSeq (oSet (xTurn (tnAlloc q24)) p2 
(oSet (xMove q0) p3 
oEnd)) (kSeq (kSeq (oSet (xMove g0) p6 
(oSet (xLook (lkLen .sl g6)) p7 
(oSet (xLook (lkEq true .int g7 q86)) p8 
(oSet (xMove g8) p9 
(oSetIf (wantF g9) (xMove g0) p10 
(oSetIf (wantF g9) (xLook (lkIxSl (nat_lit 1) g10 q16)) p11 
(oSetIf (wantF g9) (xLook (lkLoad1 g11)) p12 
(oSetIf (wantF g9) (xLook (lkEq true .int g12 q277)) p13 
(oSet (xLook (lkPick g9 q2 g13)) p14 
(oSet (xMove g14) p15 
(oSetIf (wantF g15) (xMove g0) p16 
(oSetIf (wantF g15) (xLook (lkIxSl (nat_lit 1) g16 q11)) p17 
(oSetIf (wantF g15) (xLook (lkLoad1 g17)) p18 
(oSetIf (wantF g15) (xLook (lkEq true .int g18 q278)) p19 
(oSet (xLook (lkPick g15 q2 g19)) p20 
oEnd))))))))))))))) (kCond g20 (kSeq (oSet (xLook (lkBuild q24 [])) p21 
(oDo (xTurn (tnStore (nat_lit 35) g2 g21)) 
(oSet (xMove q0) p3 
oEnd))) kRet) kSkip)) (kSeq (oSet (xMove g0) p22 
(oSet (xLook (lkSliceSl (nat_lit 1) g22 none (some q279) none)) p23 
(oSet (xCall q38 [g23]) p24 
(oSet (xTurn (tnAlloc q6)) p4 
(oDo (xTurn (tnStore (nat_lit 32) g4 g24)) 
oEnd))))) (kSeq (kSeq (kDraw 
(dLook (nat_lit 0) [] [] (lkSliceArr (nat_lit 32) (nat_lit 1) g4 none (some q280) none) p25 
(dLook (nat_lit 1) [] [] (lkMove g0) p26 
(dLook (nat_lit 2) [] [] (lkSliceSl (nat_lit 1) g26 (some q279) none none) p27 
(dTurn (nat_lit 3) [] [] true (xCall q108 [g25, g27]) p28 
(dLook (nat_lit 4) [] [(nat_lit 3)] (lkUn .not g28) p29 (dEnd [(nat_lit 25), (nat_lit 26), (nat_lit 27), (nat_lit 28), (nat_lit 29)]))))))) (kCond g29 (kSeq (oSet (xLook (lkBuild q24 [])) p30 
(oDo (xTurn (tnStore (nat_lit 35) g2 g30)) 
(oSet (xMove q0) p3 
oEnd))) kRet) kSkip)) (kSeq (oSet (xMove g0) p31 
(oSet (xLook (lkSliceSl (nat_lit 1) g31 (some q32) none none)) p32 
(oSet (xLook (lkBuild q56 [((nat_lit 0), (nat_lit 1), g32)])) p33 
(oSet (xLook (lkBuild q281 [((nat_lit 0), (nat_lit 1), g33)])) p34 
(oSet (xTurn (tnBox g34)) p35 
(oSet (xMove g35) p5 
oEnd)))))) (kSeq (kSeq (oSet (xMove g5) p36 
(oSet (xNil g36) p37 
(oSet (xLook (lkFieldAddr (nat_lit 0) g37)) p38 
(oSet (xLook (lkFieldAddr (nat_lit 0) g38)) p39 
(oSet (xLook (lkLoad1 g39)) p40 
(oSet (xLook (lkIxSl (nat_lit 1) g40 q16)) p41 
(oSet (xLook (lkLoad1 g41)) p42 
(oSet (xLook (lkEq true .int g42 q282)) p43 
oEnd)))))))) (kCond g43 (kSeq (oSet (xLook (lkBuild q24 [])) p44 
(oDo (xTurn (tnStore (nat_lit 35) g2 g44)) 
(oSet (xMove q0) p3 
oEnd))) kRet) kSkip)) (kSeq (oSet (xMove g5) p45 
(oSet (xMove g5) p46 
(oSet (xNil g46) p47 
(oSet (xLook (lkFieldAddr (nat_lit 0) g47)) p48 
(oSet (xCall q283 [g48, q20]) p49 
(oSet (xNil g45) p50 
(oSet (xLook (lkFieldAddr (nat_lit 1) g50)) p51 
(oSet (xLook (lkFieldAddr (nat_lit 0) g51)) p52 
(oDo (xTurn (tnStore (nat_lit 1) g52 g49)) 
oEnd))))))))) (kSeq (kDraw 
(dLook (nat_lit 0) [] [] (lkMove g5) p53 
(dTurn (nat_lit 1) [] [] false (xNil g53) p54 
(dLook (nat_lit 2) [] [] (lkFieldAddr (nat_lit 1) g54) p55 
(dLook (nat_lit 3) [] [] (lkFieldAddr (nat_lit 1) g55) p56 
(dLook (nat_lit 4) [] [] (lkSliceArr (nat_lit 32) (nat_lit 1) g56 none none none) p57 
(dLook (nat_lit 5) [] [] (lkMove g5) p58 
(dTurn (nat_lit 6) [] [] false (xNil g58) p59 
(dLook (nat_lit 7) [] [] (lkFieldAddr (nat_lit 0) g59) p60 
(dLook (nat_lit 8) [] [] (lkFieldAddr (nat_lit 0) g60) p61 
(dLook (nat_lit 9) [] [] (lkLoad1 g61) p62 
(dTurn (nat_lit 10) [] [] true (xTurn (tnCopy (nat_lit 1) g57 g62)) p63 (dEnd [(nat_lit 53), (nat_lit 54), (nat_lit 55), (nat_lit 56), (nat_lit 57), (nat_lit 58), (nat_lit 59), (nat_lit 60), (nat_lit 61), (nat_lit 62), (nat_lit 63)]))))))))))))) (kSeq (oSet (xMove g5) p64 
(oSet (xMove g5) p65 
(oSet (xNil g65) p66 
(oSet (xLook (lkFieldAddr (nat_lit 0) g66)) p67 
(oSet (xLook (lkFieldAddr (nat_lit 0) g67)) p68 
(oSet (xLook (lkLoad1 g68)) p69 
(oSet (xLook (lkSliceSl (nat_lit 1) g69 (some q179) none none)) p70 
(oSet (xNil g64) p71 
(oSet (xLook (lkFieldAddr (nat_lit 0) g71)) p72 
(oSet (xLook (lkFieldAddr (nat_lit 0) g72)) p73 
(oDo (xTurn (tnStore (nat_lit 1) g73 g70)) 
oEnd))))))))))) (kSeq (kDraw 
(dLook (nat_lit 0) [] [] (lkMove g5) p74 
(dLook (nat_lit 1) [] [] (lkMove g5) p75 
(dLook (nat_lit 2) [] [] (lkMove g5) p76 
(dTurn (nat_lit 3) [] [] false (xNil g76) p77 
(dLook (nat_lit 4) [] [] (lkFieldAddr (nat_lit 0) g77) p78 
(dTurn (nat_lit 5) [] [] true (xCall q283 [g78, q19]) p79 
(dLook (nat_lit 6) [] [] (lkMove g5) p80 
(dTurn (nat_lit 7) [] [] false (xNil g80) p81 
(dLook (nat_lit 8) [] [] (lkFieldAddr (nat_lit 0) g81) p82 
(dTurn (nat_lit 9) [] [(nat_lit 5)] true (xCall q283 [g82, q19]) p83 
(dTurn (nat_lit 10) [] [(nat_lit 5), (nat_lit 9)] false (xNil g74) p84 
(dLook (nat_lit 11) [] [(nat_lit 5), (nat_lit 9)] (lkFieldAddr (nat_lit 1) g84) p85 
(dLook (nat_lit 12) [] [(nat_lit 5), (nat_lit 9)] (lkFieldAddr (nat_lit 33) g85) p86 
(dTurn (nat_lit 13) [] [(nat_lit 5), (nat_lit 9)] true (xTurn (tnStore (nat_lit 1) g86 g79)) noDst 
(dTurn (nat_lit 14) [] [(nat_lit 5), (nat_lit 9), (nat_lit 13)] false (xNil g75) p87 
(dLook (nat_lit 15) [] [(nat_lit 5), (nat_lit 9), (nat_lit 13)] (lkFieldAddr (nat_lit 1) g87) p88 
(dLook (nat_lit 16) [] [(nat_lit 5), (nat_lit 9), (nat_lit 13)] (lkFieldAddr (nat_lit 34) g88) p89 
(dTurn (nat_lit 17) [] [(nat_lit 5), (nat_lit 9), (nat_lit 13)] true (xTurn (tnStore (nat_lit 1) g89 g83)) noDst (dEnd [(nat_lit 74), (nat_lit 75), (nat_lit 76), (nat_lit 77), (nat_lit 78), (nat_lit 79), (nat_lit 80), (nat_lit 81), (nat_lit 82), (nat_lit 83), (nat_lit 84), (nat_lit 85), (nat_lit 86), (nat_lit 87), (nat_lit 88), (nat_lit 89)])))))))))))))))))))) (kSeq (kSeq (oSet (xMove g5) p90 
(oSet (xNil g90) p91 
(oSet (xLook (lkFieldAddr (nat_lit 1) g91)) p92 
(oSet (xLook (lkLoadN (nat_lit 35) g92)) p93 
(oSet (xCall q284 [g93]) p94 
(oSet (xLook (lkEq true .int g94 q16)) p95 
oEnd)))))) (kCond g95 (kSeq (oSet (xLook (lkBuild q24 [])) p96 
(oDo (xTurn (tnStore (nat_lit 35) g2 g96)) 
(oSet (xMove q0) p3 
oEnd))) kRet) kSkip)) (kSeq (oSet (xMove g5) p97 
(oSet (xNil g97) p98 
(oSet (xLook (lkFieldAddr (nat_lit 1) g98)) p99 
(oSet (xLook (lkLoadN (nat_lit 35) g99)) p100 
(oDo (xTurn (tnStore (nat_lit 35) g2 g100)) 
(oSet (xMove q2) p3 
oEnd)))))) kRet))))))))))))⟩
def q285 : List Value := [(.bool false)]
noncomputable def k219 : KFun := ⟨[rCell1 (nat_lit 4) g4], (kSeq (oSet (xTurn (tnBox g0)) p2 
(oSet (xTurn (tnAlloc q285)) p4 
oEnd)) (kSeq (kSeq (oSet (xLook (lkLoad1 g2)) p6 
(oSet (xLook (lkEq false .ptr g6 q4)) p7 
(oSet (xMove g7) p8 
(oSetIf (wantF g8) (xLook (lkLoad1 g2)) p9 
(oSetIf (wantF g8) (xNil g9) p10 
(oSetIf (wantF g8) (xLook (lkFieldAddr (nat_lit 0) g10)) p11 
(oSetIf (wantF g8) (xCall q171 [g11]) p12 
(oSet (xLook (lkPick g8 q2 g12)) p13 
(oSet (xMove g13) p14 
(oSetIf (wantF g14) (xLook (lkLoad1 g2)) p15 
(oSetIf (wantF g14) (xNil g15) p16 
(oSetIf (wantF g14) (xLook (lkFieldAddr (nat_lit 0) g16)) p17 
(oSetIf (wantF g14) (xLook (lkFieldAddr (nat_lit 2) g17)) p18 
(oSetIf (wantF g14) (xLook (lkFieldAddr (nat_lit 0) g18)) p19 
(oSetIf (wantF g14) (xLook (lkLoad1 g19)) p20 
(oSetIf (wantF g14) (xLook (lkEq true .int g20 q16)) p21 
(oSet (xLook (lkPick g14 q2 g21)) p22 
oEnd))))))))))))))))) (kCond g22 (kSeq (oDo (xTurn (tnStore (nat_lit 1) g4 q0)) 
oEnd) kRet) kSkip)) (kSeq (oSet (xLook (lkLoad1 g2)) p23 
(oSet (xNil g23) p24 
(oSet (xLook (lkFieldAddr (nat_lit 4) g24)) p25 
(oSet (xLook (lkLoad1 g25)) p26 
(oSet (xTurn (tnAlloc q123)) p5 
(oDo (xTurn (tnStore (nat_lit 1) g5 g26)) 
oEnd)))))) (kSeq (oSet (xLook (lkMkFunc (.func (nat_lit 272)) [] [g4, g5, g2])) p27 
(oDo (xDefer g27 []) 
oEnd)) (kSeq (oSet (xMove g1) p28 
(oSet (xCall g28 []) p29 
oEnd)) kRet)))))⟩
def q286 : OpdF := kC (.func (.func (nat_lit 221)) ⟨[]⟩ ⟨[]⟩)
noncomputable def k220 : KFun := ⟨[], (oSet (xLook (lkLoad1 g0)) p3 
(oSet (xLook (lkLoad1 g1)) p4 
(oSet (xCall q286 [g3, q16, g4, q40]) p5 
(oDo (xTurn (tnStore (nat_lit 1) g2 g5)) 
oEnd))))⟩
def q287 : OpdF := kC (.func (.func (nat_lit 223)) ⟨[]⟩ ⟨[]⟩)
def q288 : OpdF := kC (.int .u8 (.ofNat (nat_lit 127)))
noncomputable def k221 : KFun := ⟨[rTmp (nat_lit 8) g8], (kSeq (oSet (xMove q16) p8 
oEnd) (kSeq (oSet (xMove g0) p14 
(oSet (xNil g14) p15 
(oSet (xLook (lkFieldAddr (nat_lit 4) g15)) p16 
(oSet (xLook (lkLoad1 g16)) p17 
(oSet (xTurn (tnAlloc q123)) p9 
(oDo (xTurn (tnStore (nat_lit 1) g9 g17)) 
(oSet (xMove q16) p10 
(oSet (xMove q16) p11 
oEnd)))))))) (kSeq (oSet (xLook (lkMkFunc (.func (nat_lit 273)) [] [g9])) p18 
(oSet (xMove g18) p12 
oEnd)) (kSeq (kBlock (nat_lit 0) (kLoop (kBlock (nat_lit 1) (kSeq (oSet (xMove g0) p19 
(oSet (xCall q287 [g19, q11]) p20 
(oSet (xLook (lkIxSl (nat_lit 1) g20 q16)) p21 
(oSet (xLook (lkLoad1 g21)) p22 
(oSet (xMove g22) p13 
oEnd))))) (kSeq (oSet (xMove g10) p23 
(oSet (xMove g13) p24 
(oSet (xLook (lkBin .and g24 q288)) p25 
(oSet (xLook (lkIntTo .i64 g25)) p26 
(oSet (xMove g11) p27 
(oSet (xLook (lkBin .mul q152 g27)) p28 
(oSet (xLook (lkBin .shl g26 g28)) p29 
(oSet (xLook (lkBin .or g23 g29)) p30 
(oSet (xMove g30) p10 
oEnd))))))))) (kSeq (oSet (xMove g11) p31 
(oSet (xLook (lkBin .add g31 q11)) p32 
(oSet (xMove g32) p11 
oEnd))) (kSeq (kSeq (oSet (xMove g13) p33 
(oSet (xLook (lkBin .lss g33 q89)) p34 
oEnd)) (kCond g34 (kSeq (kSeq (oSet (xMove g13) p35 
(oSet (xLook (lkEq false .int g35 q282)) p36 
(oSet (xMove g36) p37 
(oSetIf (wantT g37) (xMove g11) p38 
(oSetIf (wantT g37) (xLook (lkBin .gtr g38 q11)) p39 
(oSet (xLook (lkPick g37 g39 q0)) p40 
oEnd)))))) (kCond g40 (oSet (xMove g12) p41 
(oSet (xCall g41 [q19]) p42 
oEnd)) kSkip)) (kExit (nat_lit 0))) kSkip)) (kSeq (oSet (xMove g11) p43 
(oSet (xLook (lkEq false .int g43 q104)) p44 
oEnd)) (kCond g44 (oSet (xMove g12) p45 
(oSet (xCall g45 [q76]) p46 
oEnd)) kSkip))))))))) (kSeq (kBlock (nat_lit 2) (kSeq (oSet (xMove g10) p48 
(oSet (xMove g1) p49 
(oSet (xLook (lkBin .lss g48 g49)) p50 
(oSet (xMove g50) p47 
oEnd)))) (kCond g47 (oSet (xMove g12) p51 
(oSet (xCall g51 [q76]) p52 
oEnd)) (kSeq (oSet (xMove g10) p54 
(oSet (xMove g2) p55 
(oSet (xLook (lkBin .gtr g54 g55)) p56 
(oSet (xMove g56) p53 
oEnd)))) (kCond g53 (oSet (xMove g12) p57 
(oSet (xMove g3) p58 
(oSet (xCall g57 [g58]) p59 
oEnd))) kSkip))))) (kSeq (oSet (xMove g10) p60 
(oSet (xMove g60) p8 
oEnd)) kRet))))))⟩
noncomputable def k222 : KFun := ⟨[], (kDraw 
(dLook (nat_lit 0) [] [] (lkSliceArr (nat_lit 32) (nat_lit 1) g0 none none none) p2 
(dLook (nat_lit 1) [] [] (lkLoad1 g1) p3 
(dTurn (nat_lit 2) [] [] true (xCall q287 [g3, q179]) p4 
(dTurn (nat_lit 3) [] [(nat_lit 2)] true (xTurn (tnCopy (nat_lit 1) g2 g4)) p5 (dEnd [(nat_lit 2), (nat_lit 3), (nat_lit 4), (nat_lit 5)]))))))⟩
noncomputable def k223 : KFun := ⟨[rTmp (nat_lit 4) g4], (kSeq (oSet (xMove q5) p4 
oEnd) (kSeq (kSeq (kDraw 
(dLook (nat_lit 0) [] [] (lkMove g1) p5 
(dLook (nat_lit 1) [] [] (lkMove g0) p6 
(dTurn (nat_lit 2) [] [] false (xNil g6) p7 
(dLook (nat_lit 3) [] [] (lkFieldAddr (nat_lit 0) g7) p8 
(dLook (nat_lit 4) [] [] (lkFieldAddr (nat_lit 1) g8) p9 
(dLook (nat_lit 5) [] [] (lkLoad1 g9) p10 
(dLook (nat_lit 6) [] [] (lkLen .sl g10) p11 
(dLook (nat_lit 7) [] [] (lkMove g0) p12 
(dTurn (nat_lit 8) [] [] false (xNil g12) p13 
(dLook (nat_lit 9) [] [] (lkFieldAddr (nat_lit 4) g13) p14 
(dLook (nat_lit 10) [] [] (lkLoad1 g14) p15 
(dLook (nat_lit 11) [] [] (lkBin .sub g11 g15) p16 
(dLook (nat_lit 12) [] [] (lkBin .gtr g5 g16) p17 (dEnd [(nat_lit 5), (nat_lit 6), (nat_lit 7), (nat_lit 8), (nat_lit 9), (nat_lit 10), (nat_lit 11), (nat_lit 12), (nat_lit 13), (nat_lit 14), (nat_lit 15), (nat_lit 16), (nat_lit 17)]))))))))))))))) (kCond g17 (oSet (xMove g0) p18 
(oSet (xNil g18) p19 
(oSet (xLook (lkFieldAddr (nat_lit 0) g19)) p20 
(oSet (xLook (lkFieldAddr (nat_lit 1) g20)) p21 
(oSet (xLook (lkLoad1 g21)) p22 
(oSet (xLook (lkLen .sl g22)) p23 
(oSet (xLook (lkBuild q26 [((nat_lit 0), (nat_lit 1), q19), ((nat_lit 1), (nat_lit 1), g23)])) p24 
(oSet (xLook (lkBuild q26 [((nat_lit 0), (nat_lit 2), g24)])) p25 
(oSet (xLook (lkMkIface (nat_lit 402) g25)) p26 
(oDo (xPanic g26) 
oEnd)))))))))) kSkip)) (kSeq (oSet (xMove g0) p27 
(oSet (xNil g27) p28 
(oSet (xLook (lkFieldAddr (nat_lit 4) g28)) p29 
(oSet (xLook (lkLoad1 g29)) p30 
(oSet (xMove g1) p31 
(oSet (xLook (lkBin .add g30 g31)) p32 
(oSet (xNil g27) p33 
(oSet (xLook (lkFieldAddr (nat_lit 4) g33)) p34 
(oDo (xTurn (tnStore (nat_lit 1) g34 g32)) 
oEnd))))))))) (kSeq (kDraw 
(dLook (nat_lit 0) [] [] (lkMove g0) p35 
(dTurn (nat_lit 1) [] [] false (xNil g35) p36 
(dLook (nat_lit 2) [] [] (lkFieldAddr (nat_lit 0) g36) p37 
(dLook (nat_lit 3) [] [] (lkFieldAddr (nat_lit 1) g37) p38 
(dLook (nat_lit 4) [] [] (lkLoad1 g38) p39 
(dLook (nat_lit 5) [] [] (lkMove g0) p40 
(dTurn (nat_lit 6) [] [] false (xNil g40) p41 
(dLook (nat_lit 7) [] [] (lkFieldAddr (nat_lit 4) g41) p42 
(dLook (nat_lit 8) [] [] (lkLoad1 g42) p43 
(dLook (nat_lit 9) [] [] (lkMove g1) p44 
(dLook (nat_lit 10) [] [] (lkBin .sub g43 g44) p45 
(dLook (nat_lit 11) [] [] (lkMove g0) p46 
(dTurn (nat_lit 12) [] [] false (xNil g46) p47 
(dLook (nat_lit 13) [] [] (lkFieldAddr (nat_lit 4) g47) p48 
(dLook (nat_lit 14) [] [] (lkLoad1 g48) p49 
(dLook (nat_lit 15) [] [] (lkSliceSl (nat_lit 1) g39 (some g45) (some g49) none) p50 
(dLook (nat_lit 16) [] [] (lkMove g50) p4 (dEnd [(nat_lit 35), (nat_lit 36), (nat_lit 37), (nat_lit 38), (nat_lit 39), (nat_lit 40), (nat_lit 41), (nat_lit 42), (nat_lit 43), (nat_lit 44), (nat_lit 45), (nat_lit 46), (nat_lit 47), (nat_lit 48), (nat_lit 49), (nat_lit 50), (nat_lit 4)]))))))))))))))))))) kRet))))⟩
noncomputable def k224 : KFun := ⟨[], (oSet (xLook (lkLoad1 g0)) p4 
(oSet (xLook (lkLoad1 g1)) p5 
(oSet (xLook (lkLoad1 g2)) p6 
(oSet (xCall q286 [g4, g5, g6, q76]) p7 
(oDo (xTurn (tnStore (nat_lit 1) g3 g7)) 
oEnd)))))⟩
noncomputable def k225 : KFun := ⟨[rTmp (nat_lit 2) g2], (kSeq (oSet (xMove q0) p2 
oEnd) (kSeq (oSet (xMove g0) p3 
(oSet (xLook (lkEq false .ptr g3 q4)) p4 
(oSet (xMove g4) p5 
(oSetIf (wantF g5) (xMove g0) p6 
(oSetIf (wantF g5) (xNil g6) p7 
(oSetIf (wantF g5) (xLook (lkFieldAddr (nat_lit 0) g7)) p8 
(oSetIf (wantF g5) (xLook (lkLoad1 g8)) p9 
(oSetIf (wantF g5) (xLook (lkUn .not g9)) p10 
(oSet (xLook (lkPick g5 q2 g10)) p11 
(oSet (xMove g11) p2 
oEnd)))))))))) kRet))⟩
noncomputable def k226 : KFun := ⟨[rTmp (nat_lit 2) g2], (kSeq (oSet (xMove q16) p2 
oEnd) (kSeq (kSeq (oSet (xMove g0) p3 
(oSet (xLook (lkEq false .ptr g3 q4)) p4 
(oSet (xMove g4) p5 
(oSetIf (wantF g5) (xMove g0) p6 
(oSetIf (wantF g5) (xNil g6) p7 
(oSetIf (wantF g5) (xLook (lkFieldAddr (nat_lit 0) g7)) p8 
(oSetIf (wantF g5) (xCall q171 [g8]) p9 
(oSet (xLook (lkPick g5 q2 g9)) p10 
oEnd)))))))) (kCond g10 (kSeq (oSet (xMove q16) p2 
oEnd) kRet) kSkip)) (kSeq (kDraw 
(dLook (nat_lit 0) [] [] (lkMove g0) p11 
(dTurn (nat_lit 1) [] [] false (xNil g11) p12 
(dLook (nat_lit 2) [] [] (lkFieldAddr (nat_lit 0) g12) p13 
(dLook (nat_lit 3) [] [] (lkFieldAddr (nat_lit 1) g13) p14 
(dLook (nat_lit 4) [] [] (lkLoad1 g14) p15 
(dLook (nat_lit 5) [] [] (lkLen .sl g15) p16 
(dLook (nat_lit 6) [] [] (lkMove g0) p17 
(dTurn (nat_lit 7) [] [] false (xNil g17) p18 
(dLook (nat_lit 8) [] [] (lkFieldAddr (nat_lit 4) g18) p19 
(dLook (nat_lit 9) [] [] (lkLoad1 g19) p20 
(dLook (nat_lit 10) [] [] (lkBin .sub g16 g20) p21 
(dLook (nat_lit 11) [] [] (lkMove g21) p2 (dEnd [(nat_lit 11), (nat_lit 12), (nat_lit 13), (nat_lit 14), (nat_lit 15), (nat_lit 16), (nat_lit 17), (nat_lit 18), (nat_lit 19), (nat_lit 20), (nat_lit 21), (nat_lit 2)])))))))))))))) kRet)))⟩
def q289 : OpdF := kC (.func (.func (nat_lit 134)) ⟨[]⟩ ⟨[]⟩)
def q290 : OpdF := kC (.func (.func (nat_lit 274)) ⟨[]⟩ ⟨[]⟩)
noncomputable def k227 : KFun := ⟨[], (kSeq (oSet (xMove g0) p5 
(oSet (xLook (lkLen .sl g5)) p6 
(oSet (xMove g6) p4 
oEnd))) (oSet (xMove g0) p7 
(oSet (xMove g4) p8 
(oSet (xMove g4) p9 
(oSet (xLook (lkIntTo .u64 g9)) p10 
(oSet (xCall q289 [g10]) p11 
(oSet (xMove g1) p12 
(oSet (xCall q290 [g7, q16, g8, g11, g12]) p13 
oEnd))))))))⟩
def q291 : OpdF := kC (.func (.func (nat_lit 275)) ⟨[]⟩ ⟨[]⟩)
noncomputable def k228 : KFun := ⟨[rTmp (nat_lit 4) g4], (kSeq (oSet (xTurn (tnBox g0)) p2 
(oSet (xTurn (tnBox g1)) p3 
(oSet (xMove q16) p4 
oEnd))) (kSeq (oSet (xLook (lkFieldAddr (nat_lit 0) g2)) p5 
(oSet (xLook (lkLoad1 g5)) p6 
(oSet (xLook (lkFieldAddr (nat_lit 0) g3)) p7 
(oSet (xLook (lkLoad1 g7)) p8 
(oSet (xCall q291 [g6, g8]) p9 
(oSet (xMove g9) p4 
oEnd)))))) kRet))⟩
noncomputable def k229 : KFun := ⟨[rTmp (nat_lit 2) g2], (kSeq (oSet (xTurn (tnBox g0)) p1 
(oSet (xMove q16) p2 
oEnd)) (kSeq (oSet (xLook (lkFieldAddr (nat_lit 0) g1)) p3 
(oSet (xLook (lkLoad1 g3)) p4 
(oSet (xLook (lkFieldAddr (nat_lit 1) g1)) p5 
(oSet (xLook (lkLoad1 g5)) p6 
(oSet (xLook (lkBin .add g4 g6)) p7 
(oSet (xMove g7) p2 
oEnd)))))) kRet))⟩
noncomputable def k230 : KFun := ⟨[rTmp (nat_lit 6) g6], (kSeq (oSet (xMove q0) p6 
oEnd) (kSeq (oSet (xMove g0) p7 
(oSet (xCall q164 [g7]) p8 
(oSet (xLook (lkEq true .int g8 q16)) p9 
(oSet (xMove g9) p10 
(oSetIf (wantF g10) (xMove g2) p11 
(oSetIf (wantF g10) (xLook (lkBin .lss g11 q11)) p12 
(oSet (xLook (lkPick g10 q2 g12)) p13 
(oSet (xMove g13) p14 
(oSetIf (wantF g14) (xMove g1) p15 
(oSetIf (wantF g14) (xLook (lkBin .lss g15 q16)) p16 
(oSet (xLook (lkPick g14 q2 g16)) p17 
(oSet (xMove g17) p18 
(oSetIf (wantF g18) (xMove g1) p19 
(oSetIf (wantF g18) (xLook (lkBin .geq g19 q39)) p20 
(oSet (xLook (lkPick g18 q2 g20)) p21 
(oSet (xMove g21) p22 
(oSetIf (wantF g22) (xMove g2) p23 
(oSetIf (wantF g22) (xMove g1) p24 
(oSetIf (wantF g22) (xLook (lkBin .sub q39 g24)) p25 
(oSetIf (wantF g22) (xLook (lkBin .gtr g23 g25)) p26 
(oSet (xLook (lkPick g22 q2 g26)) p27 
(oSet (xMove g27) p6 
oEnd)))))))))))))))))))))) kRet))⟩
def q292 : OpdF := kC (.func (.func (nat_lit 276)) ⟨[]⟩ ⟨[]⟩)
def q293 : OpdF := kC (.func (.func (nat_lit 277)) ⟨[]⟩ ⟨[]⟩)
noncomputable def k231 : KFun := ⟨[rTmp (nat_lit 4) g4], (kSeq (oSet (xMove q16) p4 
oEnd) (kSeq (oSet (xMove g0) p8 
(oSet (xMove g1) p9 
(oSet (xCall q292 [g8, g9, q293]) p10 
(oSet (xMove g10) p7 
(oSet (xLook (lkExtract (nat_lit 0) g7)) p11 
(oSet (xLook (lkExtract (nat_lit 1) g7)) p12 
(oSet (xMove g11) p5 
(oSet (xMove g12) p6 
oEnd)))))))) (kSeq (oSet (xMove g5) p13 
(oSet (xMove g13) p4 
oEnd)) kRet)))⟩
def q294 : OpdF := kC (.func (.func (nat_lit 278)) ⟨[]⟩ ⟨[]⟩)
def q295 : OpdF := kC (.func (.func (nat_lit 279)) ⟨[]⟩ ⟨[]⟩)
noncomputable def k233 : KFun := ⟨[rTmp (nat_lit 4) g4], (kSeq (oSet (xMove q5) p4 
oEnd) (kSeq (kSeq (oSet (xMove g1) p9 
(oSet (xCall q294 [g9]) p10 
(oSet (xLook (lkUn .not g10)) p11 
oEnd))) (kCond g11 (kSeq (oSet (xMove q5) p4 
oEnd) kRet) kSkip)) (kSeq (oSet (xMove q5) p5 
oEnd) (kSeq (oSet (xMove q16) p6 
oEnd) (kSeq (kSeq (oSet (xMove g0) p12 
(oSet (xLook (lkLen .sl g12)) p13 
(oSet (xMove q16) p14 
oEnd))) (kBlock (nat_lit 0) (kLoop (kSeq (oSet (xLook (lkBin .lss g14 g13)) p15 
oEnd) (kSeq (kCond g15 kSkip (kExit (nat_lit 0))) (kSeq (kBlock (nat_lit 1) (kSeq (oSet (xMove g14) p16 
(oSet (xLook (lkIxSl (nat_lit 1) g12 g14)) p17 
(oSet (xLook (lkLoad1 g17)) p18 
(oSet (xMove g16) p7 
(oSet (xMove g18) p8 
oEnd))))) (kSeq (oSet (xMove g6) p19 
(oSet (xLook (lkBin .add g19 q11)) p20 
(oSet (xMove g20) p6 
oEnd))) (kSeq (oSet (xMove g6) p21 
(oSet (xLook (lkEq false .int g21 q144)) p22 
(oSet (xMove g22) p23 
(oSetIf (wantF g23) (xMove g7) p24 
(oSetIf (wantF g23) (xMove g0) p25 
(oSetIf (wantF g23) (xLook (lkLen .sl g25)) p26 
(oSetIf (wantF g23) (xLook (lkBin .sub g26 q11)) p27 
(oSetIf (wantF g23) (xLook (lkEq false .int g24 g27)) p28 
(oSet (xLook (lkPick g23 q2 g28)) p29 
(oSet (xMove g29) p30 
(oSetIf (wantF g30) (xMove g6) p31 
(oSetIf (wantF g30) (xLook (lkBin .gtr g31 q11)) p32 
(oSetIf (wantF g30) (xMove g32) p33 
(oSetIf (wantF g33) (xMove g1) p34 
(oSetIf (wantF g33) (xLook (lkEq false .int g34 q16)) p35 
(oSetIf (wantF g30) (xLook (lkPick g33 q2 g35)) p36 
(oSetIf (wantF g30) (xMove g36) p37 
(oSetIf (wantT g37) (xMove g8) p38 
(oSetIf (wantT g37) (xMove g1) p39 
(oSetIf (wantT g37) (xCall q295 [g38, g39]) p40 
(oSetIf (wantF g30) (xLook (lkPick g37 g40 q0)) p41 
(oSet (xLook (lkPick g30 q2 g41)) p42 
oEnd)))))))))))))))))))))) (kCond g42 (oSet (xMove g5) p43 
(oSet (xMove g6) p44 
(oSet (xTurn (tnBuildSlice q123 [((nat_lit 0), (nat_lit 1), g44)] (nat_lit 1))) p45 
(oSet (xTurn (tnAppend (nat_lit 1) g43 g45)) p46 
(oSet (xMove g46) p5 
(oSet (xMove q16) p6 
oEnd)))))) kSkip))))) (oSet (xLook (lkBin .add g14 q11)) p47 
(oSet (xMove g47) p14 
oEnd)))))))) (kSeq (oSet (xMove g5) p48 
(oSet (xMove g48) p4 
oEnd)) kRet))))))⟩
def q296 : OpdF := kC (.func (.func (nat_lit 141)) ⟨[]⟩ ⟨[]⟩)
def q297 : OpdF := kC (.func (.func (nat_lit 280)) ⟨[]⟩ ⟨[]⟩)
def q298 : OpdF := kC (.func (.func (nat_lit 281)) ⟨[]⟩ ⟨[]⟩)
def q299 : OpdF := kC (.func (.func (nat_lit 144)) ⟨[]⟩ ⟨[]⟩)
def q300 : OpdF := kC (.func (.func (nat_lit 282)) ⟨[]⟩ ⟨[]⟩)
def q301 : OpdF := kC (.func (.func (nat_lit 283)) ⟨[]⟩ ⟨[]⟩)
noncomputable def k234 : KFun := ⟨[rTmp (nat_lit 2) g2, rTmp (nat_lit 3) g3], (kSeq (oSet (xTurn (tnBox g0)) p1 
(oSet (xMove q5) p2 
(oSet (xMove q16) p3 
oEnd))) (kSeq (kSeq (oSet (xLook (lkLoadN (nat_lit 3) g1)) p6 
(oSet (xCall q191 [g6]) p7 
(oSet (xMove g7) p4 
oEnd))) (kSeq (oSet (xMove g4) p8 
(oSet (xLook (lkEq true .int g8 q16)) p9 
oEnd)) (kCond g9 (kSeq (oSet (xMove g4) p10 
(oSet (xMove q5) p2 
(oSet (xMove g10) p3 
oEnd))) kRet) kSkip))) (kSeq (oSet (xCall q296 []) p11 
(oSet (xMove g11) p5 
oEnd)) (kSeq (oSet (xMove g5) p12 
(oSet (xLook (lkFieldAddr (nat_lit 0) g1)) p13 
(oSet (xLook (lkLoad1 g13)) p14 
(oSet (xCall q200 [g12, g14]) p15 
oEnd)))) (kSeq (kSeq (oSet (xLook (lkFieldAddr (nat_lit 0) g1)) p16 
(oSet (xLook (lkLoad1 g16)) p17 
(oSet (xLook (lkEq false .int g17 q16)) p18 
oEnd))) (kCond g18 (kSeq (oSet (xMove g5) p19 
(oSet (xLook (lkFieldAddr (nat_lit 1) g1)) p20 
(oSet (xLook (lkLoad1 g20)) p21 
(oSet (xCall q297 [g19, g21, q298]) p22 
oEnd)))) (kSeq (oSet (xMove g5) p23 
(oSet (xCall q299 [g23]) p24 
(oSet (xLook (lkExtract (nat_lit 0) g24)) p25 
(oSet (xLook (lkExtract (nat_lit 1) g24)) p26 
(oSet (xMove g25) p2 
(oSet (xMove g26) p3 
oEnd)))))) kRet)) kSkip)) (kSeq (oSet (xMove g5) p27 
(oSet (xLook (lkFieldAddr (nat_lit 2) g1)) p28 
(oSet (xLook (lkLoad1 g28)) p29 
(oSet (xCall q300 [g27, g29, q301]) p30 
oEnd)))) (kSeq (oSet (xMove g5) p31 
(oSet (xCall q299 [g31]) p32 
(oSet (xLook (lkExtract (nat_lit 0) g32)) p33 
(oSet (xLook (lkExtract (nat_lit 1) g32)) p34 
(oSet (xMove g33) p2 
(oSet (xMove g34) p3 
oEnd)))))) kRet)))))))⟩
def q302 : OpdF := kC (.func (.func (nat_lit 284)) ⟨[]⟩ ⟨[]⟩)
noncomputable def k235 : KFun := ⟨[rTmp (nat_lit 2) g2], (kSeq (oSet (xTurn (tnBox g0)) p1 
(oSet (xMove q50) p2 
oEnd)) (kSeq (oSet (xLook (lkLoadN (nat_lit 3) g1)) p3 
(oSet (xCall q302 [g3]) p4 
(oSet (xInvoke g4 "retcon/page.first" []) p5 
(oSet (xMove g5) p2 
oEnd)))) kRet))⟩
noncomputable def k236 : KFun := ⟨[rTmp (nat_lit 2) g2], (kSeq (oSet (xTurn (tnBox g0)) p1 
(oSet (xMove q16) p2 
oEnd)) (kSeq (oSet (xLook (lkLoadN (nat_lit 3) g1)) p3 
(oSet (xCall q302 [g3]) p4 
(oSet (xInvoke g4 "retcon/page.count" []) p5 
(oSet (xMove g5) p2 
oEnd)))) kRet))⟩
noncomputable def k237 : KFun := ⟨[rTmp (nat_lit 2) g2], (kSeq (oSet (xTurn (tnBox g0)) p1 
(oSet (xMove q16) p2 
oEnd)) (kSeq (kSeq (oSet (xLook (lkFieldAddr (nat_lit 2) g1)) p4 
(oSet (xLook (lkLoad1 g4)) p5 
(oSet (xLook (lkLen .sl g5)) p6 
(oSet (xMove g6) p3 
oEnd)))) (kBlock (nat_lit 0) (kSeq (oSet (xLook (lkFieldAddr (nat_lit 0) g1)) p8 
(oSet (xLook (lkLoad1 g8)) p9 
(oSet (xCall q294 [g9]) p10 
(oSet (xLook (lkUn .not g10)) p11 
(oSet (xMove g11) p7 
oEnd))))) (kCond g7 (kSeq (oSet (xMove q76) p2 
oEnd) kRet) (kSeq (oSet (xLook (lkFieldAddr (nat_lit 1) g1)) p13 
(oSet (xLook (lkLoad1 g13)) p14 
(oSet (xLook (lkLen .sl g14)) p15 
(oSet (xLook (lkFieldAddr (nat_lit 2) g1)) p16 
(oSet (xLook (lkLoad1 g16)) p17 
(oSet (xLook (lkLen .sl g17)) p18 
(oSet (xLook (lkBin .add g15 g18)) p19 
(oSet (xLook (lkBin .gtr g19 q144)) p20 
(oSet (xMove g20) p12 
oEnd))))))))) (kCond g12 (kSeq (oSet (xMove q40) p2 
oEnd) kRet) (kSeq (kSeq (oSet (xLook (lkFieldAddr (nat_lit 0) g1)) p22 
(oSet (xLook (lkLoad1 g22)) p23 
(oSet (xLook (lkEq false .int g23 q16)) p24 
(oSet (xMove g24) p25 
(oSetIf (wantT g25) (xMove g3) p26 
(oSetIf (wantT g25) (xLook (lkBin .gtr g26 q16)) p27 
(oSet (xLook (lkPick g25 g27 q0)) p28 
(oSet (xMove g28) p21 
oEnd)))))))) (kCond g21 kSkip (kSeq (oSet (xLook (lkFieldAddr (nat_lit 0) g1)) p29 
(oSet (xLook (lkLoad1 g29)) p30 
(oSet (xLook (lkBin .gtr g30 q16)) p31 
(oSet (xMove g31) p32 
(oSetIf (wantT g32) (xLook (lkFieldAddr (nat_lit 1) g1)) p33 
(oSetIf (wantT g32) (xLook (lkLoad1 g33)) p34 
(oSetIf (wantT g32) (xLook (lkLen .sl g34)) p35 
(oSetIf (wantT g32) (xLook (lkBin .gtr g35 q16)) p36 
(oSet (xLook (lkPick g32 g36 q0)) p37 
(oSet (xMove g37) p21 
oEnd)))))))))) (kCond g21 kSkip (oSet (xLook (lkLoadN (nat_lit 3) g1)) p38 
(oSet (xCall q302 [g38]) p39 
(oSet (xInvoke g39 "retcon/page.fine" []) p40 
(oSet (xLook (lkUn .not g40)) p41 
(oSet (xMove g41) p21 
oEnd))))))))) (kCond g21 (kSeq (oSet (xMove q32) p2 
oEnd) kRet) kSkip)))))))) (kSeq (oSet (xMove q16) p2 
oEnd) kRet)))⟩
def q303 : OpdF := kC (.func (.func (nat_lit 255)) ⟨[]⟩ ⟨[]⟩)
noncomputable def k238 : KFun := ⟨[rCellN (nat_lit 2) g2 (nat_lit 3), rCellN (nat_lit 3) g3 (nat_lit 2)], (kSeq (oSet (xTurn (tnAlloc q180)) p2 
(oSet (xTurn (tnAlloc q26)) p3 
oEnd)) (kSeq (oSet (xMove g0) p10 
(oSet (xCall q110 [g10]) p11 
(oSet (xMove g11) p4 
oEnd))) (kSeq (oSet (xMove g4) p12 
(oSet (xCall q113 [g12, q16, q190]) p13 
(oSet (xLook (lkBuild q180 [((nat_lit 0), (nat_lit 1), g13)])) p14 
(oSet (xTurn (tnAlloc q180)) p5 
(oDo (xTurn (tnStore (nat_lit 3) g5 g14)) 
oEnd))))) (kSeq (kSeq (oSet (xMove g4) p15 
(oSet (xCall q111 [g15, q144]) p16 
(oSet (xMove g16) p6 
oEnd))) (kBlock (nat_lit 0) (kLoop (kSeq (kSeq (oSet (xMove g6) p17 
(oSet (xLook (lkBin .gtr g17 q16)) p18 
(oSet (xMove g18) p19 
(oSetIf (wantT g19) (xMove g4) p20 
(oSetIf (wantT g19) (xCall q114 [g20]) p21 
(oSetIf (wantT g19) (xLook (lkField1 (nat_lit 0) g21)) p22 
(oSetIf (wantT g19) (xLook (lkEq false .int g22 q16)) p23 
(oSet (xLook (lkPick g19 g23 q0)) p24 
oEnd)))))))) (kCond g24 kSkip (kExit (nat_lit 0)))) (kSeq (kBlock (nat_lit 1) (kSeq (oSet (xMove g4) p27 
(oSet (xCall q303 [g27, q179]) p28 
(oSet (xMove g28) p7 
oEnd))) (kSeq (kSeq (oSet (xLook (lkFieldAddr (nat_lit 0) g5)) p29 
(oSet (xLook (lkLoad1 g29)) p30 
(oSet (xLook (lkEq false .int g30 q16)) p31 
oEnd))) (kCond g31 (kSeq (kDraw 
(dLook (nat_lit 0) [] [] (lkFieldAddr (nat_lit 1) g5) p32 
(dLook (nat_lit 1) [] [] (lkLoad1 g32) p33 
(dLook (nat_lit 2) [] [] (lkMove g7) p34 
(dLook (nat_lit 3) [] [] (lkMove g4) p35 
(dTurn (nat_lit 4) [(nat_lit 1)] [] true (xCall q303 [g35, q86]) p36 
(dLook (nat_lit 5) [] [(nat_lit 4)] (lkBuild q53 [((nat_lit 0), (nat_lit 1), g34), ((nat_lit 1), (nat_lit 1), g36)]) p37 
(dTurn (nat_lit 6) [] [(nat_lit 4)] false (xTurn (tnBuildSlice q53 [((nat_lit 0), (nat_lit 2), g37)] (nat_lit 1))) p38 
(dTurn (nat_lit 7) [] [(nat_lit 4)] true (xTurn (tnAppend (nat_lit 2) g33 g38)) p39 
(dLook (nat_lit 8) [] [(nat_lit 4), (nat_lit 7)] (lkFieldAddr (nat_lit 1) g5) p40 
(dTurn (nat_lit 9) [] [(nat_lit 4), (nat_lit 7)] true (xTurn (tnStore (nat_lit 1) g40 g39)) noDst (dEnd [(nat_lit 32), (nat_lit 33), (nat_lit 34), (nat_lit 35), (nat_lit 36), (nat_lit 37), (nat_lit 38), (nat_lit 39), (nat_lit 40)])))))))))))) (kExit (nat_lit 1))) kSkip)) (kSeq (oSet (xMove g4) p41 
(oSet (xCall q112 [g41]) p42 
(oSet (xTurn (tnAlloc q6)) p8 
(oDo (xTurn (tnStore (nat_lit 32) g8 g42)) 
oEnd)))) (kDraw 
(dLook (nat_lit 0) [] [] (lkFieldAddr (nat_lit 2) g5) p43 
(dLook (nat_lit 1) [] [] (lkLoad1 g43) p44 
(dLook (nat_lit 2) [] [] (lkMove g7) p45 
(dLook (nat_lit 3) [] [] (lkLoadN (nat_lit 32) g8) p46 
(dLook (nat_lit 4) [] [] (lkMove g4) p47 
(dTurn (nat_lit 5) [(nat_lit 1), (nat_lit 3)] [] true (xCall q113 [g47, q11, q39]) p48 
(dLook (nat_lit 6) [] [(nat_lit 5)] (lkBuild q184 [((nat_lit 0), (nat_lit 1), g45), ((nat_lit 1), (nat_lit 32), g46), ((nat_lit 33), (nat_lit 1), g48)]) p49 
(dTurn (nat_lit 7) [] [(nat_lit 5)] false (xTurn (tnBuildSlice q184 [((nat_lit 0), (nat_lit 34), g49)] (nat_lit 1))) p50 
(dTurn (nat_lit 8) [] [(nat_lit 5)] true (xTurn (tnAppend (nat_lit 34) g44 g50)) p51 
(dLook (nat_lit 9) [] [(nat_lit 5), (nat_lit 8)] (lkFieldAddr (nat_lit 2) g5) p52 
(dTurn (nat_lit 10) [] [(nat_lit 5), (nat_lit 8)] true (xTurn (tnStore (nat_lit 1) g52 g51)) noDst (dEnd [(nat_lit 43), (nat_lit 44), (nat_lit 45), (nat_lit 46), (nat_lit 47), (nat_lit 48), (nat_lit 49), (nat_lit 50), (nat_lit 51), (nat_lit 52)]))))))))))))))))) (oSet (xMove g6) p25 
(oSet (xLook (lkBin .sub g25 q11)) p26 
(oSet (xMove g26) p6 
oEnd)))))))) (kSeq (kSeq (oSet (xMove g4) p53 
(oSet (xCall q116 [g53]) p54 
(oSet (xTurn (tnAlloc q26)) p9 
(oDo (xTurn (tnStore (nat_lit 2) g9 g54)) 
oEnd)))) (kSeq (oSet (xLook (lkFieldAddr (nat_lit 0) g9)) p55 
(oSet (xLook (lkLoad1 g55)) p56 
(oSet (xLook (lkEq true .int g56 q16)) p57 
oEnd))) (kCond g57 (kSeq (kDraw 
(dLook (nat_lit 0) [] [] (lkBuild q180 []) p58 
(dLook (nat_lit 1) [] [] (lkLoadN (nat_lit 2) g9) p59 
(dTurn (nat_lit 2) [(nat_lit 1)] [] true (xTurn (tnStore (nat_lit 3) g2 g58)) noDst 
(dTurn (nat_lit 3) [] [(nat_lit 2)] true (xTurn (tnStore (nat_lit 2) g3 g59)) noDst (dEnd [(nat_lit 58), (nat_lit 59)])))))) kRet) kSkip))) (kSeq (kSeq (oSet (xLook (lkLoadN (nat_lit 3) g5)) p60 
(oSet (xCall q191 [g60]) p61 
(oSet (xLook (lkEq true .int g61 q16)) p62 
oEnd))) (kCond g62 (kSeq (oSet (xLook (lkBuild q180 [])) p63 
(oSet (xLook (lkBuild q26 [((nat_lit 0), (nat_lit 1), q32)])) p64 
(oDo (xTurn (tnStore (nat_lit 3) g2 g63)) 
(oDo (xTurn (tnStore (nat_lit 2) g3 g64)) 
oEnd)))) kRet) kSkip)) (kSeq (oSet (xLook (lkLoadN (nat_lit 3) g5)) p65 
(oSet (xLook (lkBuild q26 [])) p66 
(oDo (xTurn (tnStore (nat_lit 3) g2 g65)) 
(oDo (xTurn (tnStore (nat_lit 2) g3 g66)) 
oEnd)))) kRet)))))))⟩
def q304 : OpdF := kC (.func (.func (nat_lit 285)) ⟨[]⟩ ⟨[]⟩)
noncomputable def k239 : KFun := ⟨[rTmp (nat_lit 4) g4], (kSeq (oSet (xTurn (tnBox g0)) p2 
(oSet (xMove q0) p4 
oEnd)) (kSeq (oSet (xMove g1) p5 
(oSet (xLook (lkFieldAddr (nat_lit 0) g2)) p6 
(oSet (xLook (lkLoad1 g6)) p7 
(oSet (xLook (lkBin .geq g5 g7)) p8 
(oSet (xMove g8) p9 
(oSetIf (wantT g9) (xLook (lkLoadN (nat_lit 2) g2)) p10 
(oSetIf (wantT g9) (xLook (lkBuild q53 [((nat_lit 0), (nat_lit 2), g10)])) p11 
(oSetIf (wantT g9) (xMove g1) p12 
(oSetIf (wantT g9) (xCall q304 [g11, g12]) p13 
(oSet (xLook (lkPick g9 g13 q0)) p14 
(oSet (xMove g14) p4 
oEnd))))))))))) kRet))⟩
noncomputable def k240 : KFun := ⟨[rTmp (nat_lit 4) g4], (kSeq (oSet (xTurn (tnBox g0)) p2 
(oSet (xTurn (tnBox g1)) p3 
(oSet (xMove q0) p4 
oEnd))) (kSeq (oSet (xLook (lkFieldAddr (nat_lit 0) g2)) p6 
(oSet (xLook (lkLoad1 g6)) p7 
(oSet (xLook (lkFieldAddr (nat_lit 0) g3)) p8 
(oSet (xLook (lkLoad1 g8)) p9 
(oSet (xLook (lkMax g7 [g9])) p10 
(oSet (xMove g10) p5 
oEnd)))))) (kSeq (oSet (xLook (lkLoadN (nat_lit 2) g2)) p11 
(oSet (xMove g5) p12 
(oSet (xCall q195 [g11, g12]) p13 
(oSet (xMove g13) p14 
(oSetIf (wantT g14) (xLook (lkLoadN (nat_lit 2) g3)) p15 
(oSetIf (wantT g14) (xMove g5) p16 
(oSetIf (wantT g14) (xCall q195 [g15, g16]) p17 
(oSet (xLook (lkPick g14 g17 q0)) p18 
(oSet (xMove g18) p4 
oEnd))))))))) kRet)))⟩
noncomputable def k241d0 : KD := 
(dLook (nat_lit 18) [] [(nat_lit 7), (nat_lit 14)] (lkPick g34 q2 g39) p40 (dEnd [(nat_lit 22), (nat_lit 23), (nat_lit 24), (nat_lit 25), (nat_lit 26), (nat_lit 27), (nat_lit 28), (nat_lit 29), (nat_lit 30), (nat_lit 31), (nat_lit 32), (nat_lit 33), (nat_lit 34), (nat_lit 35), (nat_lit 36), (nat_lit 37), (nat_lit 38), (nat_lit 39), (nat_lit 40)]))
noncomputable def k241d1 : KD := 
(dIf [(nat_lit 7), (nat_lit 14)] (wantF g34) p39 (dLook (nat_lit 17) [] [(nat_lit 7), (nat_lit 14)] (lkEq true .int g36 g38) p39 k241d0) k241d0)
noncomputable def k241d2 : KD := 
(dIf [(nat_lit 7)] (wantF g34) p38 (dLook (nat_lit 16) [(nat_lit 14)] [(nat_lit 7)] (lkLoad1 g37) p38 k241d1) k241d1)
noncomputable def k241d3 : KD := 
(dIf [(nat_lit 7)] (wantF g34) p37 (dLook (nat_lit 15) [] [(nat_lit 7)] (lkFieldAddr (nat_lit 33) g6) p37 k241d2) k241d2)
noncomputable def k241d4 : KD := 
(dIf [(nat_lit 7)] (wantF g34) p36 (dTurn (nat_lit 14) [] [(nat_lit 7)] true (xCall q188 [g35]) p36 k241d3) k241d3)
noncomputable def k241d5 : KD := 
(dLook (nat_lit 11) [] [(nat_lit 7)] (lkPick g27 q2 g32) p33 
(dLook (nat_lit 12) [] [(nat_lit 7)] (lkMove g33) p34 
(dIf [(nat_lit 7)] (wantF g34) p35 (dLook (nat_lit 13) [] [(nat_lit 7)] (lkLoadN (nat_lit 3) g11) p35 k241d4) k241d4)))
noncomputable def k241d6 : KD := 
(dIf [(nat_lit 7)] (wantF g27) p32 (dLook (nat_lit 10) [] [(nat_lit 7)] (lkEq true .str g29 g31) p32 k241d5) k241d5)
noncomputable def k241d7 : KD := 
(dIf [] (wantF g27) p31 (dLook (nat_lit 9) [(nat_lit 7)] [] (lkLoad1 g30) p31 k241d6) k241d6)
noncomputable def k241d8 : KD := 
(dIf [] (wantF g27) p30 (dLook (nat_lit 8) [] [] (lkFieldAddr (nat_lit 0) g6) p30 k241d7) k241d7)
noncomputable def k241d9 : KD := 
(dIf [] (wantF g27) p29 (dTurn (nat_lit 7) [] [] true (xCall q189 [g28]) p29 k241d8) k241d8)
noncomputable def k241 : KFun := ⟨[rTmp (nat_lit 10) g10], (kSeq (oSet (xTurn (tnBox g1)) p6 
(oSet (xTurn (tnBox g3)) p8 
(oSet (xMove q0) p10 
oEnd))) (kSeq (oSet (xMove g0) p14 
(oSet (xLook (lkFieldAddr (nat_lit 1) g6)) p15 
(oSet (xLook (lkLoadN (nat_lit 32) g15)) p16 
(oSet (xCall q192 [g14, g16]) p17 
(oSet (xMove g17) p13 
(oSet (xLook (lkExtract (nat_lit 0) g13)) p18 
(oSet (xLook (lkExtract (nat_lit 1) g13)) p19 
(oSet (xTurn (tnAlloc q180)) p11 
(oDo (xTurn (tnStore (nat_lit 3) g11 g18)) 
(oSet (xMove g19) p12 
oEnd)))))))))) (kSeq (kSeq (oSet (xMove g12) p20 
(oSet (xLook (lkUn .not g20)) p21 
oEnd)) (kCond g21 (kSeq (oSet (xMove q0) p10 
oEnd) kRet) kSkip)) (kSeq (kSeq (kDraw 
(dLook (nat_lit 0) [] [] (lkFieldAddr (nat_lit 0) g11) p22 
(dLook (nat_lit 1) [] [] (lkLoad1 g22) p23 
(dLook (nat_lit 2) [] [] (lkMove g2) p24 
(dLook (nat_lit 3) [] [] (lkBin .sub g24 q11) p25 
(dLook (nat_lit 4) [] [] (lkEq true .int g23 g25) p26 
(dLook (nat_lit 5) [] [] (lkMove g26) p27 
(dIf [] (wantF g27) p28 (dLook (nat_lit 6) [] [] (lkLoadN (nat_lit 3) g11) p28 k241d9) k241d9)))))))) (kCond g40 (kSeq (oSet (xMove g0) p41 
(oSet (xNil g41) p42 
(oSet (xLook (lkFieldAddr (nat_lit 2) g42)) p43 
(oDo (xTurn (tnStore (nat_lit 1) g43 q28)) 
oEnd)))) (kSeq (oSet (xMove q0) p10 
oEnd) kRet)) kSkip)) (kSeq (oSet (xMove g0) p44 
(oSet (xLook (lkLoadN (nat_lit 3) g11)) p45 
(oSet (xLook (lkLoadN (nat_lit 2) g8)) p46 
(oSet (xMove g4) p47 
(oSet (xCall q193 [g44, g45, g46, g47]) p48 
(oSet (xMove g48) p10 
oEnd)))))) kRet)))))⟩
def q305 : OpdF := kC (.func (.func (nat_lit 286)) ⟨[]⟩ ⟨[]⟩)
def q306 : OpdF := kC (.func (.func (nat_lit 287)) ⟨[]⟩ ⟨[]⟩)
noncomputable def k242 : KFun := ⟨[rTmp (nat_lit 2) g2], (kSeq (oSet (xMove q5) p2 
oEnd) (kSeq (oSet (xMove g0) p4 
(oSet (xCall q305 [g4]) p5 
(oSet (xMove g5) p3 
oEnd))) (kSeq (oSet (xMove g3) p6 
(oSet (xCall q306 [g6]) p7 
oEnd)) (kSeq (oSet (xMove g3) p8 
(oSet (xMove g8) p2 
oEnd)) kRet))))⟩
noncomputable def k243 : KFun := ⟨[rTmp (nat_lit 2) g2], (kSeq (oSet (xTurn (tnBox g0)) p1 
(oSet (xMove q126) p2 
oEnd)) (kSeq (oSet (xLook (lkMkFunc (.func (nat_lit 288)) [] [g1])) p3 
(oSet (xMove g3) p2 
oEnd)) kRet))⟩
noncomputable def k255 : KFun := ⟨[rTmp (nat_lit 4) g4], (kSeq (oSet (xTurn (tnBox g0)) p2 
(oSet (xTurn (tnBox g1)) p3 
(oSet (xMove q50) p4 
oEnd))) (kSeq (oSet (xTurn (tnAlloc q127)) p5 
(oDo (xTurn (tnStore (nat_lit 1) g5 q50)) 
oEnd)) (kSeq (kSeq (oSet (xLook (lkLoad1 g2)) p6 
(oSet (xLook (lkMkFunc (.func (nat_lit 290)) [] [g2, g3, g5])) p7 
(oSet (xCall q170 [g6, g7]) p8 
(oSet (xLook (lkUn .not g8)) p9 
oEnd)))) (kCond g9 (kSeq (oSet (xMove q50) p4 
oEnd) kRet) kSkip)) (kSeq (oSet (xLook (lkLoad1 g5)) p10 
(oSet (xMove g10) p4 
oEnd)) kRet))))⟩
def q307 : OpdF := kC (.int .u64 (.ofNat (nat_lit 0)))
def q308 : OpdF := kC (.int .u64 (.ofNat (nat_lit 1)))
noncomputable def k257 : KFun := ⟨[rTmp (nat_lit 2) g2], (kSeq (oSet (xMove q307) p2 
oEnd) (kSeq (oSet (xMove g0) p3 
(oSet (xLook (lkIntTo .u64 g3)) p4 
(oSet (xCall q289 [g4]) p5 
(oSet (xLook (lkBin .shl q308 g5)) p6 
(oSet (xMove g6) p2 
oEnd))))) kRet))⟩
def q309 : OpdF := kC (.int .u64 (.ofNat (nat_lit 13)))
def q310 : OpdF := kC (.int .u64 (.ofNat (nat_lit 17)))
noncomputable def k258 : KFun := ⟨[rTmp (nat_lit 2) g2], (kSeq (oSet (xMove q307) p2 
oEnd) (kSeq (kDraw 
(dLook (nat_lit 0) [] [] (lkMove g0) p3 
(dTurn (nat_lit 1) [] [] false (xNil g3) p4 
(dLook (nat_lit 2) [] [] (lkLoad1 g4) p5 
(dLook (nat_lit 3) [] [] (lkMove g0) p6 
(dTurn (nat_lit 4) [] [] false (xNil g6) p7 
(dLook (nat_lit 5) [] [] (lkLoad1 g7) p8 
(dLook (nat_lit 6) [] [] (lkBin .shl g8 q309) p9 
(dLook (nat_lit 7) [] [] (lkBin .xor g5 g9) p10 
(dTurn (nat_lit 8) [] [] false (xNil g3) p11 
(dTurn (nat_lit 9) [] [] true (xTurn (tnStore (nat_lit 1) g11 g10)) noDst (dEnd [(nat_lit 3), (nat_lit 4), (nat_lit 5), (nat_lit 6), (nat_lit 7), (nat_lit 8), (nat_lit 9), (nat_lit 10), (nat_lit 11)])))))))))))) (kSeq (kDraw 
(dLook (nat_lit 0) [] [] (lkMove g0) p12 
(dTurn (nat_lit 1) [] [] false (xNil g12) p13 
(dLook (nat_lit 2) [] [] (lkLoad1 g13) p14 
(dLook (nat_lit 3) [] [] (lkMove g0) p15 
(dTurn (nat_lit 4) [] [] false (xNil g15) p16 
(dLook (nat_lit 5) [] [] (lkLoad1 g16) p17 
(dLook (nat_lit 6) [] [] (lkBin .shr g17 q163) p18 
(dLook (nat_lit 7) [] [] (lkBin .xor g14 g18) p19 
(dTurn (nat_lit 8) [] [] false (xNil g12) p20 
(dTurn (nat_lit 9) [] [] true (xTurn (tnStore (nat_lit 1) g20 g19)) noDst (dEnd [(nat_lit 12), (nat_lit 13), (nat_lit 14), (nat_lit 15), (nat_lit 16), (nat_lit 17), (nat_lit 18), (nat_lit 19), (nat_lit 20)])))))))))))) (kSeq (kDraw 
(dLook (nat_lit 0) [] [] (lkMove g0) p21 
(dTurn (nat_lit 1) [] [] false (xNil g21) p22 
(dLook (nat_lit 2) [] [] (lkLoad1 g22) p23 
(dLook (nat_lit 3) [] [] (lkMove g0) p24 
(dTurn (nat_lit 4) [] [] false (xNil g24) p25 
(dLook (nat_lit 5) [] [] (lkLoad1 g25) p26 
(dLook (nat_lit 6) [] [] (lkBin .shl g26 q310) p27 
(dLook (nat_lit 7) [] [] (lkBin .xor g23 g27) p28 
(dTurn (nat_lit 8) [] [] false (xNil g21) p29 
(dTurn (nat_lit 9) [] [] true (xTurn (tnStore (nat_lit 1) g29 g28)) noDst (dEnd [(nat_lit 21), (nat_lit 22), (nat_lit 23), (nat_lit 24), (nat_lit 25), (nat_lit 26), (nat_lit 27), (nat_lit 28), (nat_lit 29)])))))))))))) (kSeq (oSet (xMove g0) p30 
(oSet (xNil g30) p31 
(oSet (xLook (lkLoad1 g31)) p32 
(oSet (xMove g32) p2 
oEnd)))) kRet)))))⟩
def q311 : OpdF := kC (.int .u64 (.ofNat (nat_lit 31)))
noncomputable def k261 : KFun := ⟨[rTmp (nat_lit 4) g4], (kSeq (oSet (xMove q208) p4 
oEnd) (kSeq (oSet (xMove g1) p6 
(oSet (xLook (lkIntTo .u64 g6)) p7 
(oSet (xLook (lkBin .and g7 q311)) p8 
(oSet (xMove g8) p5 
oEnd)))) (kSeq (oSet (xMove g0) p9 
(oSet (xMove g5) p10 
(oSet (xLook (lkBin .shl g9 g10)) p11 
(oSet (xMove g0) p12 
(oSet (xMove g5) p13 
(oSet (xLook (lkBin .sub q205 g13)) p14 
(oSet (xLook (lkBin .shr g12 g14)) p15 
(oSet (xLook (lkBin .or g11 g15)) p16 
(oSet (xMove g16) p4 
oEnd))))))))) kRet)))⟩
noncomputable def k262 : KFun := ⟨[rTmp (nat_lit 6) g6], (kSeq (oSet (xMove q5) p6 
oEnd) (kSeq (oSet (xMove g0) p8 
(oSet (xMove g1) p9 
(oSet (xMove g2) p10 
(oSet (xMove g0) p11 
(oSet (xLook (lkLen .sl g11)) p12 
(oSet (xLook (lkSliceSl (nat_lit 2) g8 (some g9) (some g10) (some g12))) p13 
oEnd)))))) (kSeq (kSeq (oSet (xMove g1) p14 
(oSet (xMove g2) p15 
(oSet (xLook (lkEq false .int g14 g15)) p16 
oEnd))) (kCond g16 (kSeq (oSet (xMove g0) p17 
(oSet (xMove g17) p6 
oEnd)) kRet) kSkip)) (kSeq (oSet (xMove g0) p18 
(oSet (xLook (lkLen .sl g18)) p19 
(oSet (xMove g19) p7 
oEnd))) (kSeq (kDraw 
(dLook (nat_lit 0) [] [] (lkMove g0) p20 
(dLook (nat_lit 1) [] [] (lkMove g1) p21 
(dLook (nat_lit 2) [] [] (lkSliceSl (nat_lit 2) g20 none (some g21) none) p22 
(dLook (nat_lit 3) [] [] (lkMove g0) p23 
(dLook (nat_lit 4) [] [] (lkMove g2) p24 
(dLook (nat_lit 5) [] [] (lkSliceSl (nat_lit 2) g23 (some g24) none none) p25 
(dTurn (nat_lit 6) [] [] true (xTurn (tnAppend (nat_lit 2) g22 g25)) p26 
(dLook (nat_lit 7) [] [(nat_lit 6)] (lkMove g26) p0 (dEnd [(nat_lit 20), (nat_lit 21), (nat_lit 22), (nat_lit 23), (nat_lit 24), (nat_lit 25), (nat_lit 26), (nat_lit 0)])))))))))) (kSeq (oSet (xMove g0) p27 
(oSet (xMove g0) p28 
(oSet (xLook (lkLen .sl g28)) p29 
(oSet (xMove g7) p30 
(oSet (xLook (lkSliceSl (nat_lit 2) g27 (some g29) (some g30) none)) p31 
(oDo (xTurn (tnClear q26 g31)) 
oEnd)))))) (kSeq (oSet (xMove g0) p32 
(oSet (xMove g32) p6 
oEnd)) kRet)))))))⟩
noncomputable def k263 : KFun := ⟨[rTmp (nat_lit 2) g2], (kSeq (oSet (xMove q5) p2 
oEnd) (kSeq (kSeq (oSet (xMove g0) p3 
(oSet (xLook (lkEq false .slice g3 q5)) p4 
oEnd)) (kCond g4 (kSeq (oSet (xMove q5) p2 
oEnd) kRet) kSkip)) (kSeq (oSet (xTurn (tnBuildSlice [] [] (nat_lit 0))) p5 
(oSet (xMove g0) p6 
(oSet (xTurn (tnAppend (nat_lit 2) g5 g6)) p7 
(oSet (xMove g7) p2 
oEnd)))) kRet)))⟩
def q312 : OpdF := kC (.func (.func (nat_lit 292)) ⟨[]⟩ ⟨[]⟩)
def q313 : OpdF := kC (.func (.func (nat_lit 293)) ⟨[]⟩ ⟨[]⟩)
noncomputable def k264 : KFun := ⟨[rTmp (nat_lit 6) g6], (kSeq (oSet (xMove q5) p6 
oEnd) (kSeq (oSet (xMove g0) p10 
(oSet (xMove g1) p11 
(oSet (xLook (lkSliceSl (nat_lit 2) g10 (some g11) none none)) p12 
oEnd))) (kSeq (oSet (xMove g2) p13 
(oSet (xLook (lkLen .sl g13)) p14 
(oSet (xMove g14) p7 
oEnd))) (kSeq (kSeq (oSet (xMove g7) p15 
(oSet (xLook (lkEq false .int g15 q16)) p16 
oEnd)) (kCond g16 (kSeq (oSet (xMove g0) p17 
(oSet (xMove g17) p6 
oEnd)) kRet) kSkip)) (kSeq (oSet (xMove g0) p18 
(oSet (xLook (lkLen .sl g18)) p19 
(oSet (xMove g19) p8 
oEnd))) (kSeq (kSeq (oSet (xMove g1) p20 
(oSet (xMove g8) p21 
(oSet (xLook (lkEq false .int g20 g21)) p22 
oEnd))) (kCond g22 (kSeq (oSet (xMove g0) p23 
(oSet (xMove g2) p24 
(oSet (xTurn (tnAppend (nat_lit 2) g23 g24)) p25 
(oSet (xMove g25) p6 
oEnd)))) kRet) kSkip)) (kSeq (kSeq (oSet (xMove g8) p26 
(oSet (xMove g7) p27 
(oSet (xLook (lkBin .add g26 g27)) p28 
(oSet (xMove g0) p29 
(oSet (xLook (lkCap g29)) p30 
(oSet (xLook (lkBin .gtr g28 g30)) p31 
oEnd)))))) (kCond g31 (kSeq (oSet (xMove g0) p32 
(oSet (xMove g1) p33 
(oSet (xLook (lkSliceSl (nat_lit 2) g32 none (some g33) none)) p34 
(oSet (xMove g8) p35 
(oSet (xMove g7) p36 
(oSet (xLook (lkBin .add g35 g36)) p37 
(oSet (xMove g1) p38 
(oSet (xLook (lkBin .sub g37 g38)) p39 
(oSet (xTurn (tnAppendZ q26 g34 g39)) p40 
(oSet (xMove g40) p9 
oEnd)))))))))) (kSeq (oSet (xMove g9) p41 
(oSet (xMove g1) p42 
(oSet (xLook (lkSliceSl (nat_lit 2) g41 (some g42) none none)) p43 
(oSet (xMove g2) p44 
(oSet (xTurn (tnCopy (nat_lit 2) g43 g44)) p45 
oEnd))))) (kSeq (kDraw 
(dLook (nat_lit 0) [] [] (lkMove g9) p46 
(dLook (nat_lit 1) [] [] (lkMove g1) p47 
(dLook (nat_lit 2) [] [] (lkMove g7) p48 
(dLook (nat_lit 3) [] [] (lkBin .add g47 g48) p49 
(dLook (nat_lit 4) [] [] (lkSliceSl (nat_lit 2) g46 (some g49) none none) p50 
(dLook (nat_lit 5) [] [] (lkMove g0) p51 
(dLook (nat_lit 6) [] [] (lkMove g1) p52 
(dLook (nat_lit 7) [] [] (lkSliceSl (nat_lit 2) g51 (some g52) none none) p53 
(dTurn (nat_lit 8) [] [] true (xTurn (tnCopy (nat_lit 2) g50 g53)) p54 (dEnd [(nat_lit 46), (nat_lit 47), (nat_lit 48), (nat_lit 49), (nat_lit 50), (nat_lit 51), (nat_lit 52), (nat_lit 53), (nat_lit 54)]))))))))))) (kSeq (oSet (xMove g9) p55 
(oSet (xMove g55) p6 
oEnd)) kRet)))) kSkip)) (kSeq (oSet (xMove g0) p56 
(oSet (xMove g8) p57 
(oSet (xMove g7) p58 
(oSet (xLook (lkBin .add g57 g58)) p59 
(oSet (xLook (lkSliceSl (nat_lit 2) g56 none (some g59) none)) p60 
(oSet (xMove g60) p0 
oEnd)))))) (kSeq (kSeq (oSet (xMove g2) p61 
(oSet (xMove g0) p62 
(oSet (xMove g1) p63 
(oSet (xMove g7) p64 
(oSet (xLook (lkBin .add g63 g64)) p65 
(oSet (xLook (lkSliceSl (nat_lit 2) g62 (some g65) none none)) p66 
(oSet (xCall q312 [g61, g66]) p67 
(oSet (xLook (lkUn .not g67)) p68 
oEnd)))))))) (kCond g68 (kSeq (kDraw 
(dLook (nat_lit 0) [] [] (lkMove g0) p69 
(dLook (nat_lit 1) [] [] (lkMove g1) p70 
(dLook (nat_lit 2) [] [] (lkMove g7) p71 
(dLook (nat_lit 3) [] [] (lkBin .add g70 g71) p72 
(dLook (nat_lit 4) [] [] (lkSliceSl (nat_lit 2) g69 (some g72) none none) p73 
(dLook (nat_lit 5) [] [] (lkMove g0) p74 
(dLook (nat_lit 6) [] [] (lkMove g1) p75 
(dLook (nat_lit 7) [] [] (lkSliceSl (nat_lit 2) g74 (some g75) none none) p76 
(dTurn (nat_lit 8) [] [] true (xTurn (tnCopy (nat_lit 2) g73 g76)) p77 (dEnd [(nat_lit 69), (nat_lit 70), (nat_lit 71), (nat_lit 72), (nat_lit 73), (nat_lit 74), (nat_lit 75), (nat_lit 76), (nat_lit 77)]))))))))))) (kSeq (oSet (xMove g0) p78 
(oSet (xMove g1) p79 
(oSet (xLook (lkSliceSl (nat_lit 2) g78 (some g79) none none)) p80 
(oSet (xMove g2) p81 
(oSet (xTurn (tnCopy (nat_lit 2) g80 g81)) p82 
oEnd))))) (kSeq (oSet (xMove g0) p83 
(oSet (xMove g83) p6 
oEnd)) kRet))) kSkip)) (kSeq (oSet (xMove g0) p84 
(oSet (xMove g8) p85 
(oSet (xLook (lkSliceSl (nat_lit 2) g84 (some g85) none none)) p86 
(oSet (xMove g2) p87 
(oSet (xTurn (tnCopy (nat_lit 2) g86 g87)) p88 
oEnd))))) (kSeq (oSet (xMove g0) p89 
(oSet (xMove g1) p90 
(oSet (xLook (lkSliceSl (nat_lit 2) g89 (some g90) none none)) p91 
(oSet (xMove g7) p92 
(oSet (xCall q313 [g91, g92]) p93 
oEnd))))) (kSeq (oSet (xMove g0) p94 
(oSet (xMove g94) p6 
oEnd)) kRet))))))))))))⟩
def q314 : OpdF := kC (.int .i64 (.ofNat (nat_lit 1099511627775)))
def q315 : OpdF := kC (.int .i64 (.ofNat (nat_lit 1048576)))
noncomputable def k269 : KFun := ⟨[rTmp (nat_lit 2) g2], (kSeq (oSet (xTurn (tnBox g0)) p1 
(oSet (xMove q16) p2 
oEnd)) (kSeq (kSeq (oSet (xLook (lkFieldAddr (nat_lit 0) g1)) p3 
(oSet (xLook (lkLoad1 g3)) p4 
(oSet (xLook (lkBin .lss g4 q11)) p5 
(oSet (xMove g5) p6 
(oSetIf (wantF g6) (xLook (lkFieldAddr (nat_lit 0) g1)) p7 
(oSetIf (wantF g6) (xLook (lkLoad1 g7)) p8 
(oSetIf (wantF g6) (xLook (lkBin .gtr g8 q314)) p9 
(oSet (xLook (lkPick g6 q2 g9)) p10 
(oSet (xMove g10) p11 
(oSetIf (wantF g11) (xLook (lkFieldAddr (nat_lit 33) g1)) p12 
(oSetIf (wantF g11) (xLook (lkLoad1 g12)) p13 
(oSetIf (wantF g11) (xLook (lkBin .lss g13 q16)) p14 
(oSet (xLook (lkPick g11 q2 g14)) p15 
(oSet (xMove g15) p16 
(oSetIf (wantF g16) (xLook (lkFieldAddr (nat_lit 33) g1)) p17 
(oSetIf (wantF g16) (xLook (lkLoad1 g17)) p18 
(oSetIf (wantF g16) (xLook (lkBin .geq g18 q39)) p19 
(oSet (xLook (lkPick g16 q2 g19)) p20 
(oSet (xMove g20) p21 
(oSetIf (wantF g21) (xLook (lkFieldAddr (nat_lit 34) g1)) p22 
(oSetIf (wantF g21) (xLook (lkLoad1 g22)) p23 
(oSetIf (wantF g21) (xLook (lkBin .lss g23 q16)) p24 
(oSet (xLook (lkPick g21 q2 g24)) p25 
(oSet (xMove g25) p26 
(oSetIf (wantF g26) (xLook (lkFieldAddr (nat_lit 34) g1)) p27 
(oSetIf (wantF g26) (xLook (lkLoad1 g27)) p28 
(oSetIf (wantF g26) (xLook (lkBin .gtr g28 q315)) p29 
(oSet (xLook (lkPick g26 q2 g29)) p30 
oEnd)))))))))))))))))))))))))))) (kCond g30 (kSeq (oSet (xMove q32) p2 
oEnd) kRet) kSkip)) (kSeq (oSet (xMove q16) p2 
oEnd) kRet)))⟩
noncomputable def k271 : KFun := ⟨[rTmp (nat_lit 4) g4], (kSeq (oSet (xMove q16) p4 
oEnd) (kSeq (oSet (xMove q16) p5 
oEnd) (kSeq (kSeq (oSet (xMove g0) p8 
(oSet (xNil g8) p9 
(oSet (xLook (lkFieldAddr (nat_lit 0) g9)) p10 
(oSet (xLook (lkLoad1 g10)) p11 
(oSet (xMove g1) p12 
(oSet (xLook (lkSliceSl (nat_lit 1) g11 none (some g12) none)) p13 
(oSet (xLook (lkLen .sl g13)) p14 
(oSet (xMove q16) p15 
oEnd)))))))) (kBlock (nat_lit 0) (kLoop (kSeq (oSet (xLook (lkBin .lss g15 g14)) p16 
oEnd) (kSeq (kCond g16 kSkip (kExit (nat_lit 0))) (kSeq (kBlock (nat_lit 1) (kSeq (oSet (xLook (lkIxSl (nat_lit 1) g13 g15)) p17 
(oSet (xLook (lkLoad1 g17)) p18 
(oSet (xMove g18) p7 
oEnd))) (oSet (xMove g5) p19 
(oSet (xLook (lkBin .shl g19 q91)) p20 
(oSet (xMove g7) p21 
(oSet (xLook (lkIntTo .i64 g21)) p22 
(oSet (xLook (lkBin .or g20 g22)) p23 
(oSet (xMove g23) p5 
oEnd)))))))) (oSet (xLook (lkBin .add g15 q11)) p24 
(oSet (xMove g24) p15 
oEnd)))))))) (kSeq (oSet (xMove g0) p25 
(oSet (xMove g0) p26 
(oSet (xNil g26) p27 
(oSet (xLook (lkFieldAddr (nat_lit 0) g27)) p28 
(oSet (xLook (lkLoad1 g28)) p29 
(oSet (xMove g1) p30 
(oSet (xLook (lkSliceSl (nat_lit 1) g29 (some g30) none none)) p31 
(oSet (xNil g25) p32 
(oSet (xLook (lkFieldAddr (nat_lit 0) g32)) p33 
(oDo (xTurn (tnStore (nat_lit 1) g33 g31)) 
oEnd)))))))))) (kSeq (oSet (xMove g5) p34 
(oSet (xMove g34) p4 
oEnd)) kRet)))))⟩
def q316 : OpdF := kC .nilIface
noncomputable def k272 : KFun := ⟨[], (kSeq (oSet xRecover p6 
oEnd) (kBlock (nat_lit 0) (kSeq (oSet (xLook (lkEq false .ifaceNil g6 q316)) p8 
oEnd) (kCond g8 (kSeq (oSet (xMove g6) p3 
oEnd) (oDo (xTurn (tnStore (nat_lit 1) g0 q2)) 
oEnd)) (kSeq (oSet (xLook (lkAssertT (nat_lit 402) (.agg ⟨[(.int .i64 (.ofNat (nat_lit 0))), (.int .i64 (.ofNat (nat_lit 0)))]⟩) true g6)) p9 
(oSet (xLook (lkExtract (nat_lit 1) g9)) p10 
(oSet (xLook (lkExtract (nat_lit 0) g9)) p11 
oEnd))) (kCond g10 (kSeq (oSet (xTurn (tnAlloc q26)) p4 
(oDo (xTurn (tnStore (nat_lit 2) g4 g11)) 
oEnd)) (kDraw 
(dLook (nat_lit 0) [] [] (lkLoad1 g2) p12 
(dLook (nat_lit 1) [] [] (lkLoad1 g2) p13 
(dLook (nat_lit 2) [] [] (lkLoad1 g1) p14 
(dLook (nat_lit 3) [] [] (lkFieldAddr (nat_lit 0) g4) p15 
(dLook (nat_lit 4) [] [] (lkLoadN (nat_lit 2) g15) p16 
(dTurn (nat_lit 5) [] [] false (xNil g12) p17 
(dLook (nat_lit 6) [] [] (lkFieldAddr (nat_lit 4) g17) p18 
(dTurn (nat_lit 7) [(nat_lit 4)] [] true (xTurn (tnStore (nat_lit 1) g18 g14)) noDst 
(dTurn (nat_lit 8) [] [(nat_lit 7)] false (xNil g13) p19 
(dLook (nat_lit 9) [] [(nat_lit 7)] (lkFieldAddr (nat_lit 0) g19) p20 
(dLook (nat_lit 10) [] [(nat_lit 7)] (lkFieldAddr (nat_lit 2) g20) p21 
(dTurn (nat_lit 11) [] [(nat_lit 7)] true (xTurn (tnStore (nat_lit 2) g21 g16)) noDst (dEnd [(nat_lit 12), (nat_lit 13), (nat_lit 14), (nat_lit 15), (nat_lit 16), (nat_lit 17), (nat_lit 18), (nat_lit 19), (nat_lit 20), (nat_lit 21)]))))))))))))))) (kSeq (oSet (xMove g6) p5 
oEnd) (oSet (xMove g5) p7 
(oDo (xPanic g7) 
oEnd)))))))))⟩
noncomputable def k273 : KFun := ⟨[], (oSet (xMove g0) p3 
(oSet (xLook (lkLoad1 g1)) p4 
(oSet (xLook (lkBuild q26 [((nat_lit 0), (nat_lit 1), g3), ((nat_lit 1), (nat_lit 1), g4)])) p5 
(oSet (xLook (lkBuild q26 [((nat_lit 0), (nat_lit 2), g5)])) p6 
(oSet (xLook (lkMkIface (nat_lit 402) g6)) p7 
(oDo (xPanic g7) 
oEnd))))))⟩

end Go.Proofs.YtlajogneffpnlaaGreat.Eng
