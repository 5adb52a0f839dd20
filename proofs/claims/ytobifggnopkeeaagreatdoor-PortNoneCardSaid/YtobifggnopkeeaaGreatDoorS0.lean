/-
  The functions that the law reaches, as the abstract machine runs them, printed by program. No condition.
-/
import Derived.Test.YtobifggnopkeeaaGreatDoorA
namespace Go.Proofs.YtobifggnopkeeaaGreatDoor.Eng
open Go Go.Eng
set_option linter.unusedVariables false
set_option maxRecDepth 100000

def q0 : OpdF := kC (.bool false)
def q1 : OpdF := kC (.int .i64 (.ofNat (nat_lit 30)))
def q2 : OpdF := kC (.int .i64 (.ofNat (nat_lit 2000)))
def q3 : OpdF := kC (.bool true)
def q4 : OpdF := kC (.func (.func (nat_lit 5)) ⟨[]⟩ ⟨[]⟩)
def q5 : OpdF := kC (.pointer none)
def q6 : List Value := [(.pointer none), (.slice none (nat_lit 0) (nat_lit 0))]
def q7 : List Value := [(.pointer none), (.pointer none)]
def q8 : OpdF := kC (.int .i64 (.ofNat (nat_lit 0)))
def q9 : OpdF := kC (.int .i64 (.ofNat (nat_lit 2)))
def q10 : OpdF := kC (.func (.func (nat_lit 6)) ⟨[]⟩ ⟨[]⟩)
def q11 : OpdF := kC (.func (.func (nat_lit 7)) ⟨[]⟩ ⟨[]⟩)
def q12 : OpdF := kC (.int .i64 (.ofNat (nat_lit 1)))
noncomputable def k3 : KFun := ⟨[rTmp (nat_lit 6) g6], (kSeq (oSet (xMove q0) p6 
oEnd) (kSeq (kSeq (oSet (xMove g0) p14 
(oSet (xLook (lkLen .sl g14)) p15 
(oSet (xLook (lkBin .gtr g15 q1)) p16 
(oSet (xMove g16) p17 
(oSetIf (wantF g17) (xMove g1) p18 
(oSetIf (wantF g17) (xLook (lkLen .sl g18)) p19 
(oSetIf (wantF g17) (xLook (lkBin .gtr g19 q2)) p20 
(oSet (xLook (lkPick g17 q3 g20)) p21 
oEnd)))))))) (kCond g21 (kSeq (oSet (xCall q4 []) p22 
(oSet (xMove g22) p6 
oEnd)) kRet) kSkip)) (kSeq (oSet (xMove q5) p7 
oEnd) (kSeq (oSet (xMove g7) p23 
(oSet (xLook (lkBuild q6 [])) p24 
(oSet (xTurn (tnBox g24)) p25 
(oSet (xTurn (tnBuildSlice q7 [((nat_lit 0), (nat_lit 1), g23), ((nat_lit 1), (nat_lit 1), g25)] (nat_lit 2))) p26 
(oSet (xMove g26) p8 
oEnd))))) (kSeq (kSeq (oSet (xMove q8) p9 
oEnd) (kBlock (nat_lit 0) (kLoop (kSeq (kSeq (oSet (xMove g9) p27 
(oSet (xLook (lkBin .lss g27 q9)) p28 
oEnd)) (kCond g28 kSkip (kExit (nat_lit 0)))) (kSeq (kBlock (nat_lit 1) (kSeq (oSet (xMove g8) p32 
(oSet (xMove g9) p33 
(oSet (xLook (lkIxSl (nat_lit 1) g32 g33)) p34 
(oSet (xLook (lkLoad1 g34)) p35 
(oSet (xMove g0) p36 
(oSet (xCall q10 [g35, g36]) p37 
(oSet (xMove g37) p31 
(oSet (xLook (lkExtract (nat_lit 0) g31)) p38 
(oSet (xLook (lkExtract (nat_lit 1) g31)) p39 
(oSet (xMove g38) p10 
(oSet (xMove g39) p11 
oEnd))))))))))) (kSeq (oSet (xMove g8) p41 
(oSet (xMove g9) p42 
(oSet (xLook (lkIxSl (nat_lit 1) g41 g42)) p43 
(oSet (xLook (lkLoad1 g43)) p44 
(oSet (xMove g1) p45 
(oSet (xMove g2) p46 
(oSet (xCall q11 [g44, g45, g46]) p47 
(oSet (xMove g47) p40 
(oSet (xLook (lkExtract (nat_lit 0) g40)) p48 
(oSet (xLook (lkExtract (nat_lit 1) g40)) p49 
(oSet (xMove g48) p12 
(oSet (xMove g49) p13 
oEnd)))))))))))) (kSeq (oSet (xMove g10) p50 
(oSet (xLook (lkLen .sl g50)) p51 
(oSet (xLook (lkEq true .int g51 q8)) p52 
(oSet (xMove g52) p53 
(oSetIf (wantF g53) (xMove g11) p54 
(oSetIf (wantF g53) (xLook (lkEq true .int g54 q12)) p55 
(oSet (xLook (lkPick g53 q3 g55)) p56 
(oSet (xMove g56) p57 
(oSetIf (wantF g57) (xMove g12) p58 
(oSetIf (wantF g57) (xLook (lkLen .sl g58)) p59 
(oSetIf (wantF g57) (xLook (lkEq true .int g59 q8)) p60 
(oSet (xLook (lkPick g57 q3 g60)) p61 
(oSet (xMove g61) p62 
(oSetIf (wantF g62) (xMove g13) p63 
(oSetIf (wantF g62) (xLook (lkEq true .int g63 q12)) p64 
(oSet (xLook (lkPick g62 q3 g64)) p65 
oEnd)))))))))))))))) (kCond g65 (kSeq (oSet (xMove q0) p6 
oEnd) kRet) kSkip))))) (oSet (xMove g9) p29 
(oSet (xLook (lkBin .add g29 q12)) p30 
(oSet (xMove g30) p9 
oEnd)))))))) (kSeq (oSet (xCall q4 []) p66 
(oSet (xMove g66) p6 
oEnd)) kRet))))))⟩
def q13 : OpdF := kC (.func (.func (nat_lit 8)) ⟨[]⟩ ⟨[]⟩)
def q14 : List Value := [(.slice none (nat_lit 0) (nat_lit 0))]
def q15 : OpdF := kC (.func (.func (nat_lit 9)) ⟨[]⟩ ⟨[]⟩)
def q16 : OpdF := kC (.string ⟨⟨[97]⟩⟩)
def q17 : List Value := [(.string ⟨⟨[]⟩⟩)]
def q18 : OpdF := kC (.func (.func (nat_lit 10)) ⟨[]⟩ ⟨[]⟩)
def q19 : OpdF := kC (.string ⟨⟨[98]⟩⟩)
def q20 : OpdF := kC (.int .i64 (.ofNat (nat_lit 6)))
def q21 : OpdF := kC (.func (.func (nat_lit 12)) ⟨[]⟩ ⟨[]⟩)
def q22 : OpdF := kC (.int .i64 (.ofNat (nat_lit 7)))
def q23 : OpdF := kC (.slice none (nat_lit 0) (nat_lit 0))
def q24 : OpdF := kC (.string ⟨⟨[97, 45, 50]⟩⟩)
noncomputable def k5 : KFun := ⟨[rTmp (nat_lit 0) g0], (kSeq (oSet (xMove q0) p0 
oEnd) (kSeq (oSet (xCall q13 []) p6 
(oSet (xMove g6) p1 
oEnd)) (kSeq (kSeq (oSet (xMove g1) p7 
(oSet (xLook (lkEq false .ptr g7 q5)) p8 
(oSet (xMove g8) p9 
(oSetIf (wantF g9) (xMove g1) p10 
(oSetIf (wantF g9) (xTurn (tnMkSlice q14 q12 q12)) p11 
(oSetIf (wantF g9) (xCall q15 [g10, q16, g11]) p12 
(oSetIf (wantF g9) (xLook (lkEq true .int g12 q8)) p13 
(oSet (xLook (lkPick g9 q3 g13)) p14 
oEnd)))))))) (kCond g14 (kSeq (oSet (xMove q0) p0 
oEnd) kRet) kSkip)) (kSeq (oSet (xMove g1) p16 
(oSet (xTurn (tnBuildSlice q17 [((nat_lit 0), (nat_lit 1), q16)] (nat_lit 1))) p17 
(oSet (xCall q18 [g16, q8, g17]) p18 
(oSet (xMove g18) p15 
(oSet (xLook (lkExtract (nat_lit 0) g15)) p19 
(oSet (xLook (lkExtract (nat_lit 1) g15)) p20 
(oSet (xMove g19) p2 
(oSet (xMove g20) p3 
oEnd)))))))) (kSeq (oSet (xMove g1) p22 
(oSet (xTurn (tnBuildSlice q17 [((nat_lit 0), (nat_lit 1), q19)] (nat_lit 1))) p23 
(oSet (xCall q18 [g22, q20, g23]) p24 
(oSet (xMove g24) p21 
(oSet (xLook (lkExtract (nat_lit 0) g21)) p25 
(oSet (xLook (lkExtract (nat_lit 1) g21)) p26 
(oSet (xMove g25) p4 
(oSet (xMove g26) p5 
oEnd)))))))) (kSeq (oSet (xMove g3) p27 
(oSet (xMove g27) p28 
(oSetIf (wantT g28) (xMove g5) p29 
(oSet (xLook (lkPick g28 g29 q0)) p30 
(oSet (xMove g30) p31 
(oSetIf (wantT g31) (xMove g1) p32 
(oSetIf (wantT g31) (xMove g2) p33 
(oSetIf (wantT g31) (xCall q21 [g32, g33, q8, q22, q23]) p34 
(oSet (xLook (lkPick g31 g34 q0)) p35 
(oSet (xMove g35) p36 
(oSetIf (wantT g36) (xMove g1) p37 
(oSetIf (wantT g36) (xMove g2) p38 
(oSetIf (wantT g36) (xCall q21 [g37, g38, q12, q8, q23]) p39 
(oSet (xLook (lkPick g36 g39 q0)) p40 
(oSet (xMove g40) p41 
(oSetIf (wantT g41) (xMove g1) p42 
(oSetIf (wantT g41) (xMove g2) p43 
(oSetIf (wantT g41) (xTurn (tnBuildSlice q17 [((nat_lit 0), (nat_lit 1), q24)] (nat_lit 1))) p44 
(oSetIf (wantT g41) (xCall q21 [g42, g43, q9, q8, g44]) p45 
(oSet (xLook (lkPick g41 g45 q0)) p46 
(oSet (xMove g46) p0 
oEnd))))))))))))))))))))) kRet))))))⟩
def q25 : OpdF := kC (.func (.func (nat_lit 13)) ⟨[]⟩ ⟨[]⟩)
def q26 : OpdF := kC (.func (.func (nat_lit 16)) ⟨[]⟩ ⟨[]⟩)
def q27 : OpdF := kC (.func (.func (nat_lit 15)) ⟨[]⟩ ⟨[]⟩)
def q28 : OpdF := kC (.func (.func (nat_lit 14)) ⟨[]⟩ ⟨[]⟩)
def q29 : OpdF := kC (.func (.func (nat_lit 17)) ⟨[]⟩ ⟨[]⟩)
def q30 : List Value := [(.string ⟨⟨[]⟩⟩), (.int .u8 (.ofNat (nat_lit 0))), (.int .u8 (.ofNat (nat_lit 0))), (.int .u8 (.ofNat (nat_lit 0))), (.int .u8 (.ofNat (nat_lit 0))), (.int .u8 (.ofNat (nat_lit 0))), (.int .u8 (.ofNat (nat_lit 0))), (.int .u8 (.ofNat (nat_lit 0))), (.int .u8 (.ofNat (nat_lit 0))), (.int .u8 (.ofNat (nat_lit 0))), (.int .u8 (.ofNat (nat_lit 0))), (.int .u8 (.ofNat (nat_lit 0))), (.int .u8 (.ofNat (nat_lit 0))), (.int .u8 (.ofNat (nat_lit 0))), (.int .u8 (.ofNat (nat_lit 0))), (.int .u8 (.ofNat (nat_lit 0))), (.int .u8 (.ofNat (nat_lit 0))), (.int .u8 (.ofNat (nat_lit 0))), (.int .u8 (.ofNat (nat_lit 0))), (.int .u8 (.ofNat (nat_lit 0))), (.int .u8 (.ofNat (nat_lit 0))), (.int .u8 (.ofNat (nat_lit 0))), (.int .u8 (.ofNat (nat_lit 0))), (.int .u8 (.ofNat (nat_lit 0))), (.int .u8 (.ofNat (nat_lit 0))), (.int .u8 (.ofNat (nat_lit 0))), (.int .u8 (.ofNat (nat_lit 0))), (.int .u8 (.ofNat (nat_lit 0))), (.int .u8 (.ofNat (nat_lit 0))), (.int .u8 (.ofNat (nat_lit 0))), (.int .u8 (.ofNat (nat_lit 0))), (.int .u8 (.ofNat (nat_lit 0))), (.int .u8 (.ofNat (nat_lit 0))), (.int .u8 (.ofNat (nat_lit 0))), (.int .u8 (.ofNat (nat_lit 0))), (.int .u8 (.ofNat (nat_lit 0))), (.int .u8 (.ofNat (nat_lit 0))), (.int .u8 (.ofNat (nat_lit 0))), (.int .u8 (.ofNat (nat_lit 0))), (.int .u8 (.ofNat (nat_lit 0))), (.int .u8 (.ofNat (nat_lit 0))), (.int .u8 (.ofNat (nat_lit 0))), (.int .u8 (.ofNat (nat_lit 0))), (.int .u8 (.ofNat (nat_lit 0))), (.int .u8 (.ofNat (nat_lit 0))), (.int .u8 (.ofNat (nat_lit 0))), (.int .u8 (.ofNat (nat_lit 0))), (.int .u8 (.ofNat (nat_lit 0))), (.int .u8 (.ofNat (nat_lit 0))), (.int .u8 (.ofNat (nat_lit 0))), (.int .u8 (.ofNat (nat_lit 0))), (.int .u8 (.ofNat (nat_lit 0))), (.int .u8 (.ofNat (nat_lit 0))), (.int .u8 (.ofNat (nat_lit 0))), (.int .u8 (.ofNat (nat_lit 0))), (.int .u8 (.ofNat (nat_lit 0))), (.int .u8 (.ofNat (nat_lit 0))), (.int .u8 (.ofNat (nat_lit 0))), (.int .u8 (.ofNat (nat_lit 0))), (.int .u8 (.ofNat (nat_lit 0))), (.int .u8 (.ofNat (nat_lit 0))), (.int .u8 (.ofNat (nat_lit 0))), (.int .u8 (.ofNat (nat_lit 0))), (.int .u8 (.ofNat (nat_lit 0))), (.int .u8 (.ofNat (nat_lit 0))), (.int .i64 (.ofNat (nat_lit 0))), (.slice none (nat_lit 0) (nat_lit 0))]
def q31 : OpdF := kC (.func (.func (nat_lit 18)) ⟨[]⟩ ⟨[]⟩)
def q32 : List Value := [(.string ⟨⟨[]⟩⟩), (.slice none (nat_lit 0) (nat_lit 0))]
def q33 : OpdF := kC (.func (.func (nat_lit 19)) ⟨[]⟩ ⟨[]⟩)
noncomputable def k6 : KFun := ⟨[rTmp (nat_lit 4) g4, rTmp (nat_lit 5) g5], (kSeq (oSet (xMove q23) p4 
(oSet (xMove q8) p5 
oEnd)) (kSeq (kSeq (oSet (xMove g0) p16 
(oSet (xCall q25 [g16]) p17 
(oSet (xLook (lkEq false .ptr g17 q5)) p18 
oEnd))) (kCond g18 (kSeq (oSet (xMove q23) p4 
(oSet (xMove q12) p5 
oEnd)) kRet) kSkip)) (kSeq (oSet (xMove g1) p19 
(oSet (xCall q26 [g19]) p20 
(oSet (xCall q27 [g20]) p21 
(oSet (xCall q28 [g21]) p22 
(oSet (xMove g22) p6 
oEnd))))) (kSeq (kSeq (oSet (xMove g6) p23 
(oSet (xLook (lkLen .sl g23)) p24 
(oSet (xMove q8) p25 
oEnd))) (kBlock (nat_lit 0) (kLoop (kSeq (oSet (xLook (lkBin .lss g25 g24)) p26 
oEnd) (kSeq (kCond g26 kSkip (kExit (nat_lit 0))) (kSeq (kBlock (nat_lit 1) (kSeq (oSet (xLook (lkIxSl (nat_lit 1) g23 g25)) p27 
(oSet (xLook (lkLoad1 g27)) p28 
(oSet (xMove g28) p8 
oEnd))) (kSeq (oSet (xMove g0) p30 
(oSet (xMove g8) p31 
(oSet (xCall q29 [g30, g31]) p32 
(oSet (xMove g32) p29 
(oSet (xLook (lkExtract (nat_lit 0) g29)) p33 
(oSet (xLook (lkExtract (nat_lit 1) g29)) p34 
(oSet (xTurn (tnAlloc q30)) p9 
(oDo (xTurn (tnStore (nat_lit 67) g9 g33)) 
(oSet (xMove g34) p10 
oEnd))))))))) (kSeq (oSet (xMove g10) p35 
(oSet (xLook (lkUn .not g35)) p36 
oEnd)) (kCond g36 (kSeq (oSet (xMove q23) p4 
(oSet (xMove q20) p5 
oEnd)) kRet) kSkip))))) (oSet (xLook (lkBin .add g25 q12)) p37 
(oSet (xMove g37) p25 
oEnd)))))))) (kSeq (oSet (xMove q23) p11 
oEnd) (kSeq (kSeq (oSet (xMove g6) p38 
(oSet (xLook (lkLen .sl g38)) p39 
(oSet (xMove q8) p40 
oEnd))) (kBlock (nat_lit 2) (kLoop (kSeq (oSet (xLook (lkBin .lss g40 g39)) p41 
oEnd) (kSeq (kCond g41 kSkip (kExit (nat_lit 2))) (kSeq (kBlock (nat_lit 3) (kSeq (oSet (xLook (lkIxSl (nat_lit 1) g38 g40)) p42 
(oSet (xLook (lkLoad1 g42)) p43 
(oSet (xMove g43) p13 
oEnd))) (kSeq (oSet (xMove g0) p45 
(oSet (xMove g13) p46 
(oSet (xCall q31 [g45, g46]) p47 
(oSet (xMove g47) p44 
(oSet (xLook (lkExtract (nat_lit 0) g44)) p48 
(oSet (xLook (lkExtract (nat_lit 1) g44)) p49 
(oSet (xMove g48) p14 
(oSet (xMove g49) p15 
oEnd)))))))) (kSeq (kSeq (oSet (xMove g15) p50 
(oSet (xLook (lkEq true .int g50 q8)) p51 
oEnd)) (kCond g51 (kSeq (oSet (xMove g15) p52 
(oSet (xMove q23) p4 
(oSet (xMove g52) p5 
oEnd))) kRet) kSkip)) (oSet (xMove g11) p53 
(oSet (xMove g13) p54 
(oSet (xMove g14) p55 
(oSet (xLook (lkBuild q32 [((nat_lit 0), (nat_lit 1), g54), ((nat_lit 1), (nat_lit 1), g55)])) p56 
(oSet (xTurn (tnBuildSlice q32 [((nat_lit 0), (nat_lit 2), g56)] (nat_lit 1))) p57 
(oSet (xTurn (tnAppend (nat_lit 2) g53 g57)) p58 
(oSet (xMove g58) p11 
oEnd))))))))))) (oSet (xLook (lkBin .add g40 q12)) p59 
(oSet (xMove g59) p40 
oEnd)))))))) (kSeq (oSet (xMove g11) p60 
(oSet (xCall q33 [g60]) p61 
(oSet (xLook (lkExtract (nat_lit 0) g61)) p62 
(oSet (xLook (lkExtract (nat_lit 1) g61)) p63 
(oSet (xMove g62) p4 
(oSet (xMove g63) p5 
oEnd)))))) kRet)))))))⟩
def q34 : OpdF := kC (.func (.func (nat_lit 20)) ⟨[]⟩ ⟨[]⟩)
def q35 : List Value := [(.int .i64 (.ofNat (nat_lit 0))), (.int .i64 (.ofNat (nat_lit 0)))]
def q36 : List Value := [(.pointer none), (.slice none (nat_lit 0) (nat_lit 0)), (.slice none (nat_lit 0) (nat_lit 0)), (.int .i64 (.ofNat (nat_lit 0)))]
def q37 : OpdF := kC (.func (.func (nat_lit 22)) ⟨[]⟩ ⟨[]⟩)
def q38 : OpdF := kC (.func (.func (nat_lit 21)) ⟨[]⟩ ⟨[]⟩)
def q39 : OpdF := kC (.func (.func (nat_lit 23)) ⟨[]⟩ ⟨[]⟩)
def q40 : OpdF := kC (.int .i64 (.ofNat (nat_lit 16)))
def q41 : OpdF := kC (.int .i64 (.ofNat (nat_lit 8)))
def q42 : OpdF := kC (.func (.func (nat_lit 24)) ⟨[]⟩ ⟨[]⟩)
noncomputable def k7 : KFun := ⟨[rTmp (nat_lit 6) g6, rTmp (nat_lit 7) g7], (kSeq (oSet (xMove q23) p6 
(oSet (xMove q8) p7 
oEnd)) (kSeq (kBlock (nat_lit 0) (kSeq (oSet (xMove g0) p19 
(oSet (xCall q25 [g19]) p20 
(oSet (xLook (lkEq false .ptr g20 q5)) p21 
(oSet (xMove g21) p18 
oEnd)))) (kCond g18 (kSeq (oSet (xMove q23) p6 
(oSet (xMove q12) p7 
oEnd)) kRet) (kSeq (oSet (xMove g2) p23 
(oSet (xLook (lkBin .lss g23 q8)) p24 
(oSet (xMove g24) p25 
(oSetIf (wantF g25) (xMove g2) p26 
(oSetIf (wantF g25) (xLook (lkBin .gtr g26 q9)) p27 
(oSet (xLook (lkPick g25 q3 g27)) p28 
(oSet (xMove g28) p22 
oEnd))))))) (kCond g22 (kSeq (oSet (xMove q23) p6 
(oSet (xMove q9) p7 
oEnd)) kRet) kSkip))))) (kSeq (oSet (xMove g1) p30 
(oSet (xCall q34 [g30]) p31 
(oSet (xMove g31) p29 
(oSet (xLook (lkExtract (nat_lit 0) g29)) p32 
(oSet (xLook (lkExtract (nat_lit 1) g29)) p33 
(oSet (xTurn (tnAlloc q35)) p9 
(oSet (xMove g32) p8 
(oDo (xTurn (tnStore (nat_lit 2) g9 g33)) 
oEnd)))))))) (kSeq (kSeq (oSet (xLook (lkFieldAddr (nat_lit 0) g9)) p34 
(oSet (xLook (lkLoad1 g34)) p35 
(oSet (xLook (lkEq true .int g35 q8)) p36 
oEnd))) (kCond g36 (kSeq (kDraw 
(dLook (nat_lit 0) [] [] (lkFieldAddr (nat_lit 0) g9) p37 
(dLook (nat_lit 1) [] [] (lkLoad1 g37) p38 
(dLook (nat_lit 2) [] [] (lkMove q23) p6 
(dLook (nat_lit 3) [] [] (lkMove g38) p7 (dEnd [(nat_lit 37), (nat_lit 38), (nat_lit 6), (nat_lit 7)])))))) kRet) kSkip)) (kSeq (oSet (xMove g0) p39 
(oSet (xMove g8) p40 
(oSet (xLook (lkBuild q36 [((nat_lit 0), (nat_lit 1), g39), ((nat_lit 1), (nat_lit 1), g40)])) p41 
(oSet (xTurn (tnBox g41)) p42 
(oSet (xMove g42) p10 
oEnd))))) (kSeq (kSeq (oSet (xMove g8) p43 
(oSet (xLook (lkLen .sl g43)) p44 
(oSet (xMove q8) p45 
oEnd))) (kBlock (nat_lit 1) (kLoop (kSeq (oSet (xLook (lkBin .lss g45 g44)) p46 
oEnd) (kSeq (kCond g46 kSkip (kExit (nat_lit 1))) (kSeq (kBlock (nat_lit 2) (kSeq (oSet (xLook (lkIxSl (nat_lit 2) g43 g45)) p47 
(oSet (xLook (lkLoadN (nat_lit 2) g47)) p48 
(oSet (xTurn (tnAlloc q32)) p12 
(oDo (xTurn (tnStore (nat_lit 2) g12 g48)) 
oEnd)))) (kDraw 
(dLook (nat_lit 0) [] [] (lkMove g10) p49 
(dLook (nat_lit 1) [] [] (lkMove g10) p50 
(dTurn (nat_lit 2) [] [] false (xNil g50) p51 
(dLook (nat_lit 3) [] [] (lkFieldAddr (nat_lit 2) g51) p52 
(dLook (nat_lit 4) [] [] (lkLoad1 g52) p53 
(dLook (nat_lit 5) [] [] (lkFieldAddr (nat_lit 0) g12) p54 
(dLook (nat_lit 6) [] [] (lkLoad1 g54) p55 
(dTurn (nat_lit 7) [] [] false (xTurn (tnBuildSlice q17 [((nat_lit 0), (nat_lit 1), g55)] (nat_lit 1))) p56 
(dTurn (nat_lit 8) [] [] true (xTurn (tnAppend (nat_lit 1) g53 g56)) p57 
(dTurn (nat_lit 9) [] [(nat_lit 8)] false (xNil g49) p58 
(dLook (nat_lit 10) [] [(nat_lit 8)] (lkFieldAddr (nat_lit 2) g58) p59 
(dTurn (nat_lit 11) [] [(nat_lit 8)] true (xTurn (tnStore (nat_lit 1) g59 g57)) noDst (dEnd [(nat_lit 49), (nat_lit 50), (nat_lit 51), (nat_lit 52), (nat_lit 53), (nat_lit 54), (nat_lit 55), (nat_lit 56), (nat_lit 57), (nat_lit 58), (nat_lit 59)])))))))))))))))) (oSet (xLook (lkBin .add g45 q12)) p60 
(oSet (xMove g60) p45 
oEnd)))))))) (kSeq (oSet (xMove g10) p61 
(oSet (xMove g2) p62 
(oSet (xCall q37 [g61, g62]) p63 
(oSet (xCall q38 [g63]) p64 
(oSet (xMove g64) p13 
oEnd))))) (kSeq (kBlock (nat_lit 3) (kSeq (oSet (xMove g10) p66 
(oSet (xNil g66) p67 
(oSet (xLook (lkFieldAddr (nat_lit 3) g67)) p68 
(oSet (xLook (lkLoad1 g68)) p69 
(oSet (xLook (lkEq true .int g69 q8)) p70 
(oSet (xMove g70) p65 
oEnd)))))) (kCond g65 (kSeq (kDraw 
(dLook (nat_lit 0) [] [] (lkMove g10) p71 
(dTurn (nat_lit 1) [] [] false (xNil g71) p72 
(dLook (nat_lit 2) [] [] (lkFieldAddr (nat_lit 3) g72) p73 
(dLook (nat_lit 3) [] [] (lkLoad1 g73) p74 
(dLook (nat_lit 4) [] [] (lkMove q23) p6 
(dLook (nat_lit 5) [] [] (lkMove g74) p7 (dEnd [(nat_lit 71), (nat_lit 72), (nat_lit 73), (nat_lit 74), (nat_lit 6), (nat_lit 7)])))))))) kRet) (kSeq (oSet (xMove g0) p76 
(oSet (xCall q39 [g76]) p77 
(oSet (xLook (lkLen .sl g77)) p78 
(oSet (xMove g13) p79 
(oSet (xLook (lkLen .sl g79)) p80 
(oSet (xLook (lkBin .add g78 g80)) p81 
(oSet (xLook (lkBin .gtr g81 q40)) p82 
(oSet (xMove g82) p75 
oEnd)))))))) (kCond g75 (kSeq (oSet (xMove q23) p6 
(oSet (xMove q41) p7 
oEnd)) kRet) kSkip))))) (kSeq (oSet (xMove q23) p14 
oEnd) (kSeq (kSeq (oSet (xMove g13) p83 
(oSet (xLook (lkLen .sl g83)) p84 
(oSet (xMove q8) p85 
oEnd))) (kBlock (nat_lit 4) (kLoop (kSeq (oSet (xLook (lkBin .lss g85 g84)) p86 
oEnd) (kSeq (kCond g86 kSkip (kExit (nat_lit 4))) (kSeq (kBlock (nat_lit 5) (kSeq (oSet (xLook (lkIxSl (nat_lit 2) g83 g85)) p87 
(oSet (xLook (lkLoadN (nat_lit 2) g87)) p88 
(oSet (xTurn (tnAlloc q32)) p16 
(oDo (xTurn (tnStore (nat_lit 2) g16 g88)) 
oEnd)))) (kSeq (kSeq (oSet (xMove g0) p89 
(oSet (xLook (lkFieldAddr (nat_lit 0) g16)) p90 
(oSet (xLook (lkLoad1 g90)) p91 
(oSet (xLook (lkFieldAddr (nat_lit 1) g16)) p92 
(oSet (xLook (lkLoad1 g92)) p93 
(oSet (xCall q15 [g89, g91, g93]) p94 
(oSet (xMove g94) p17 
oEnd))))))) (kSeq (oSet (xMove g17) p95 
(oSet (xLook (lkEq true .int g95 q8)) p96 
oEnd)) (kCond g96 (kSeq (oSet (xMove g0) p97 
(oSet (xMove g14) p98 
(oSet (xCall q42 [g97, g98]) p99 
oEnd))) (kSeq (oSet (xMove g17) p100 
(oSet (xMove q23) p6 
(oSet (xMove g100) p7 
oEnd))) kRet)) kSkip))) (oSet (xMove g14) p101 
(oSet (xLook (lkFieldAddr (nat_lit 0) g16)) p102 
(oSet (xLook (lkLoad1 g102)) p103 
(oSet (xTurn (tnBuildSlice q17 [((nat_lit 0), (nat_lit 1), g103)] (nat_lit 1))) p104 
(oSet (xTurn (tnAppend (nat_lit 1) g101 g104)) p105 
(oSet (xMove g105) p14 
oEnd))))))))) (oSet (xLook (lkBin .add g85 q12)) p106 
(oSet (xMove g106) p85 
oEnd)))))))) (kSeq (oSet (xMove g14) p107 
(oSet (xMove g107) p6 
(oSet (xMove q8) p7 
oEnd))) kRet)))))))))))⟩
def q43 : OpdF := kC (.func (.func (nat_lit 25)) ⟨[]⟩ ⟨[]⟩)
def q44 : OpdF := kC (.int .i64 (.ofNat (nat_lit 8000)))
def q45 : OpdF := kC (.func (.func (nat_lit 26)) ⟨[]⟩ ⟨[]⟩)
def q46 : OpdF := kC (.func (.func (nat_lit 27)) ⟨[]⟩ ⟨[]⟩)
noncomputable def k8 : KFun := ⟨[rTmp (nat_lit 0) g0], (kSeq (oSet (xMove q5) p0 
oEnd) (kSeq (oSet (xCall q43 [q44]) p6 
(oSet (xMove g6) p5 
(oSet (xLook (lkExtract (nat_lit 0) g5)) p7 
(oSet (xLook (lkExtract (nat_lit 1) g5)) p8 
(oSet (xMove g7) p1 
(oSet (xMove g8) p2 
oEnd)))))) (kSeq (kSeq (oSet (xMove g2) p9 
(oSet (xLook (lkEq true .int g9 q8)) p10 
(oSet (xMove g10) p11 
(oSetIf (wantF g11) (xMove g1) p12 
(oSetIf (wantF g11) (xLook (lkEq false .ptr g12 q5)) p13 
(oSet (xLook (lkPick g11 q3 g13)) p14 
oEnd)))))) (kCond g14 (kSeq (oSet (xMove q5) p0 
oEnd) kRet) kSkip)) (kSeq (oSet (xMove g1) p16 
(oSet (xCall q45 [g16]) p17 
(oSet (xMove g17) p15 
(oSet (xLook (lkExtract (nat_lit 0) g15)) p18 
(oSet (xLook (lkExtract (nat_lit 1) g15)) p19 
(oSet (xMove g18) p3 
(oSet (xMove g19) p2 
oEnd))))))) (kSeq (kSeq (oSet (xMove g2) p20 
(oSet (xLook (lkEq true .int g20 q8)) p21 
(oSet (xMove g21) p22 
(oSetIf (wantF g22) (xMove g3) p23 
(oSetIf (wantF g22) (xLook (lkEq false .ptr g23 q5)) p24 
(oSet (xLook (lkPick g22 q3 g24)) p25 
oEnd)))))) (kCond g25 (kSeq (oSet (xMove q5) p0 
oEnd) kRet) kSkip)) (kSeq (oSet (xMove g3) p27 
(oSet (xCall q46 [g27]) p28 
(oSet (xMove g28) p26 
(oSet (xLook (lkExtract (nat_lit 0) g26)) p29 
(oSet (xLook (lkExtract (nat_lit 1) g26)) p30 
(oSet (xMove g29) p4 
(oSet (xMove g30) p2 
oEnd))))))) (kSeq (kSeq (oSet (xMove g2) p31 
(oSet (xLook (lkEq true .int g31 q8)) p32 
oEnd)) (kCond g32 (kSeq (oSet (xMove q5) p0 
oEnd) kRet) kSkip)) (kSeq (oSet (xMove g4) p33 
(oSet (xMove g33) p0 
oEnd)) kRet))))))))⟩
def q47 : OpdF := kC (.func (.func (nat_lit 28)) ⟨[]⟩ ⟨[]⟩)
def q48 : OpdF := kC (.func (.func (nat_lit 29)) ⟨[]⟩ ⟨[]⟩)
def q49 : OpdF := kC (.func (.func (nat_lit 30)) ⟨[]⟩ ⟨[]⟩)
noncomputable def k9 : KFun := ⟨[rTmp (nat_lit 6) g6], (kSeq (oSet (xTurn (tnBox g0)) p3 
(oSet (xTurn (tnBox g1)) p4 
(oSet (xTurn (tnBox g2)) p5 
(oSet (xMove q8) p6 
oEnd)))) (kSeq (kSeq (oSet (xLook (lkLoad1 g3)) p9 
(oSet (xCall q47 [g9]) p10 
(oSet (xLook (lkUn .not g10)) p11 
oEnd))) (kCond g11 (kSeq (oSet (xMove q12) p6 
oEnd) kRet) kSkip)) (kSeq (kSeq (oSet (xLook (lkLoad1 g4)) p12 
(oSet (xCall q48 [g12]) p13 
(oSet (xLook (lkUn .not g13)) p14 
oEnd))) (kCond g14 (kSeq (oSet (xMove q9) p6 
oEnd) kRet) kSkip)) (kSeq (kSeq (oSet (xLook (lkLoad1 g3)) p16 
(oSet (xLook (lkLoad1 g4)) p17 
(oSet (xCall q29 [g16, g17]) p18 
(oSet (xMove g18) p15 
(oSet (xLook (lkExtract (nat_lit 0) g15)) p19 
(oSet (xLook (lkExtract (nat_lit 1) g15)) p20 
(oSet (xTurn (tnAlloc q30)) p7 
(oDo (xTurn (tnStore (nat_lit 67) g7 g19)) 
(oSet (xMove g20) p8 
oEnd))))))))) (kSeq (oSet (xMove g8) p21 
(oSet (xLook (lkUn .not g21)) p22 
(oSet (xMove g22) p23 
(oSetIf (wantT g23) (xLook (lkLoad1 g3)) p24 
(oSetIf (wantT g23) (xNil g24) p25 
(oSetIf (wantT g23) (xLook (lkFieldAddr (nat_lit 1) g25)) p26 
(oSetIf (wantT g23) (xLook (lkLoad1 g26)) p27 
(oSetIf (wantT g23) (xLook (lkLen .sl g27)) p28 
(oSetIf (wantT g23) (xLook (lkBin .geq g28 q40)) p29 
(oSet (xLook (lkPick g23 g29 q0)) p30 
oEnd)))))))))) (kCond g30 (kSeq (oSet (xMove q41) p6 
oEnd) kRet) kSkip))) (kSeq (oSet (xLook (lkMkFunc (.func (nat_lit 31)) [] [g5, g3, g4])) p31 
(oSet (xCall q49 [g31]) p32 
(oSet (xMove g32) p6 
oEnd))) kRet)))))⟩
noncomputable def k10 : KFun := ⟨[rTmp (nat_lit 6) g6, rTmp (nat_lit 7) g7], (kSeq (oSet (xMove q23) p6 
(oSet (xMove q0) p7 
oEnd)) (kSeq (oSet (xMove g0) p11 
(oSet (xMove g2) p12 
(oSet (xCall q10 [g11, g12]) p13 
(oSet (xMove g13) p10 
(oSet (xLook (lkExtract (nat_lit 0) g10)) p14 
(oSet (xLook (lkExtract (nat_lit 1) g10)) p15 
(oSet (xMove g14) p8 
(oSet (xMove g15) p9 
oEnd)))))))) (kSeq (oSet (xMove g8) p16 
(oSet (xMove g9) p17 
(oSet (xMove g1) p18 
(oSet (xLook (lkEq false .int g17 g18)) p19 
(oSet (xMove g19) p20 
(oSetIf (wantT g20) (xMove g9) p21 
(oSetIf (wantT g20) (xLook (lkEq false .int g21 q8)) p22 
(oSetIf (wantT g20) (xMove g22) p23 
(oSetIf (wantF g23) (xMove g8) p24 
(oSetIf (wantF g23) (xLook (lkLen .sl g24)) p25 
(oSetIf (wantF g23) (xLook (lkEq false .int g25 q8)) p26 
(oSetIf (wantT g20) (xLook (lkPick g23 q3 g26)) p27 
(oSet (xLook (lkPick g20 g27 q0)) p28 
(oSet (xMove g16) p6 
(oSet (xMove g28) p7 
oEnd))))))))))))))) kRet)))⟩
def q50 : OpdF := kC (.func (.func (nat_lit 35)) ⟨[]⟩ ⟨[]⟩)
noncomputable def k12 : KFun := ⟨[rTmp (nat_lit 10) g10], (kSeq (oSet (xMove q0) p10 
oEnd) (kSeq (oSet (xMove g0) p14 
(oSet (xMove g1) p15 
(oSet (xMove g2) p16 
(oSet (xCall q11 [g14, g15, g16]) p17 
(oSet (xMove g17) p13 
(oSet (xLook (lkExtract (nat_lit 0) g13)) p18 
(oSet (xLook (lkExtract (nat_lit 1) g13)) p19 
(oSet (xMove g18) p11 
(oSet (xMove g19) p12 
oEnd))))))))) (kSeq (oSet (xMove g12) p20 
(oSet (xMove g3) p21 
(oSet (xLook (lkEq false .int g20 g21)) p22 
(oSet (xMove g22) p23 
(oSetIf (wantT g23) (xMove g11) p24 
(oSetIf (wantT g23) (xMove g4) p25 
(oSetIf (wantT g23) (xCall q50 [g24, g25]) p26 
(oSet (xLook (lkPick g23 g26 q0)) p27 
(oSet (xMove g27) p10 
oEnd))))))))) kRet)))⟩
noncomputable def k13 : KFun := ⟨[rTmp (nat_lit 2) g2], (kSeq (oSet (xMove q5) p2 
oEnd) (kSeq (kSeq (oSet (xMove g0) p3 
(oSet (xCall q47 [g3]) p4 
(oSet (xLook (lkUn .not g4)) p5 
oEnd))) (kCond g5 (kSeq (oSet (xMove q5) p2 
oEnd) kRet) kSkip)) (kSeq (oSet (xMove g0) p6 
(oSet (xNil g6) p7 
(oSet (xLook (lkFieldAddr (nat_lit 0) g7)) p8 
(oSet (xLook (lkFieldAddr (nat_lit 0) g8)) p9 
(oSet (xLook (lkLoad1 g9)) p10 
(oSet (xMove g10) p2 
oEnd)))))) kRet)))⟩
noncomputable def k14 : KFun := ⟨[rTmp (nat_lit 2) g2], (kSeq (oSet (xMove q23) p2 
oEnd) (kSeq (kSeq (oSet (xMove g0) p6 
(oSet (xLook (lkLen .sl g6)) p7 
(oSet (xLook (lkBin .lss g7 q9)) p8 
oEnd))) (kCond g8 (kSeq (oSet (xMove g0) p9 
(oSet (xMove g9) p2 
oEnd)) kRet) kSkip)) (kSeq (kSeq (oSet (xMove q12) p3 
oEnd) (kBlock (nat_lit 0) (kLoop (kSeq (kSeq (oSet (xMove g3) p10 
(oSet (xMove g0) p11 
(oSet (xLook (lkLen .sl g11)) p12 
(oSet (xLook (lkBin .lss g10 g12)) p13 
oEnd)))) (kCond g13 kSkip (kExit (nat_lit 0)))) (kSeq (kBlock (nat_lit 1) (kSeq (kDraw 
(dLook (nat_lit 0) [] [] (lkMove g0) p16 
(dLook (nat_lit 1) [] [] (lkMove g3) p17 
(dLook (nat_lit 2) [] [] (lkIxSl (nat_lit 1) g16 g17) p18 
(dLook (nat_lit 3) [] [] (lkLoad1 g18) p19 
(dLook (nat_lit 4) [] [] (lkMove g0) p20 
(dLook (nat_lit 5) [] [] (lkMove g3) p21 
(dLook (nat_lit 6) [] [] (lkBin .sub g21 q12) p22 
(dLook (nat_lit 7) [] [] (lkIxSl (nat_lit 1) g20 g22) p23 
(dLook (nat_lit 8) [] [] (lkLoad1 g23) p24 
(dLook (nat_lit 9) [] [] (lkEq false .str g19 g24) p25 (dEnd [(nat_lit 16), (nat_lit 17), (nat_lit 18), (nat_lit 19), (nat_lit 20), (nat_lit 21), (nat_lit 22), (nat_lit 23), (nat_lit 24), (nat_lit 25)])))))))))))) (kCond g25 (kSeq (oSet (xMove g0) p26 
(oSet (xMove g3) p27 
(oSet (xLook (lkSliceSl (nat_lit 1) g26 (some g27) none none)) p28 
(oSet (xMove g28) p4 
oEnd)))) (kSeq (kSeq (oSet (xMove q12) p5 
oEnd) (kBlock (nat_lit 2) (kLoop (kSeq (kSeq (oSet (xMove g5) p29 
(oSet (xMove g4) p30 
(oSet (xLook (lkLen .sl g30)) p31 
(oSet (xLook (lkBin .lss g29 g31)) p32 
oEnd)))) (kCond g32 kSkip (kExit (nat_lit 2)))) (kSeq (kBlock (nat_lit 3) (kSeq (kDraw 
(dLook (nat_lit 0) [] [] (lkMove g4) p35 
(dLook (nat_lit 1) [] [] (lkMove g5) p36 
(dLook (nat_lit 2) [] [] (lkIxSl (nat_lit 1) g35 g36) p37 
(dLook (nat_lit 3) [] [] (lkLoad1 g37) p38 
(dLook (nat_lit 4) [] [] (lkMove g4) p39 
(dLook (nat_lit 5) [] [] (lkMove g5) p40 
(dLook (nat_lit 6) [] [] (lkBin .sub g40 q12) p41 
(dLook (nat_lit 7) [] [] (lkIxSl (nat_lit 1) g39 g41) p42 
(dLook (nat_lit 8) [] [] (lkLoad1 g42) p43 
(dLook (nat_lit 9) [] [] (lkEq true .str g38 g43) p44 (dEnd [(nat_lit 35), (nat_lit 36), (nat_lit 37), (nat_lit 38), (nat_lit 39), (nat_lit 40), (nat_lit 41), (nat_lit 42), (nat_lit 43), (nat_lit 44)])))))))))))) (kCond g44 (kSeq (oSet (xMove g0) p45 
(oSet (xMove g3) p46 
(oSet (xMove g4) p47 
(oSet (xMove g5) p48 
(oSet (xLook (lkIxSl (nat_lit 1) g47 g48)) p49 
(oSet (xLook (lkLoad1 g49)) p50 
(oSet (xLook (lkIxSl (nat_lit 1) g45 g46)) p51 
(oDo (xTurn (tnStore (nat_lit 1) g51 g50)) 
oEnd)))))))) (oSet (xMove g3) p52 
(oSet (xLook (lkBin .add g52 q12)) p53 
(oSet (xMove g53) p3 
oEnd)))) kSkip))) (oSet (xMove g5) p33 
(oSet (xLook (lkBin .add g33 q12)) p34 
(oSet (xMove g34) p5 
oEnd)))))))) (kSeq (oSet (xMove g0) p54 
(oSet (xMove g3) p55 
(oSet (xLook (lkSliceSl (nat_lit 1) g54 (some g55) none none)) p56 
(oDo (xTurn (tnClear q17 g56)) 
oEnd)))) (kSeq (oSet (xMove g0) p57 
(oSet (xMove g3) p58 
(oSet (xLook (lkSliceSl (nat_lit 1) g57 none (some g58) none)) p59 
(oSet (xMove g59) p2 
oEnd)))) kRet)))) kSkip))) (oSet (xMove g3) p14 
(oSet (xLook (lkBin .add g14 q12)) p15 
(oSet (xMove g15) p3 
oEnd)))))))) (kSeq (oSet (xMove g0) p60 
(oSet (xMove g60) p2 
oEnd)) kRet))))⟩
def q51 : OpdF := kC (.func (.func (nat_lit 36)) ⟨[]⟩ ⟨[]⟩)
def q52 : OpdF := kC (.func (.func (nat_lit 37)) ⟨[]⟩ ⟨[]⟩)
noncomputable def k15 : KFun := ⟨[rTmp (nat_lit 2) g2], (kSeq (oSet (xMove q23) p2 
oEnd) (kSeq (oSet (xMove g0) p4 
(oSet (xCall q51 [g4]) p5 
(oSet (xMove g5) p3 
oEnd))) (kSeq (oSet (xMove g3) p6 
(oSet (xCall q52 [g6]) p7 
oEnd)) (kSeq (oSet (xMove g3) p8 
(oSet (xMove g8) p2 
oEnd)) kRet))))⟩
def q53 : OpdF := kC .nilFunc
noncomputable def k16 : KFun := ⟨[rTmp (nat_lit 2) g2], (kSeq (oSet (xTurn (tnBox g0)) p1 
(oSet (xMove q53) p2 
oEnd)) (kSeq (oSet (xLook (lkMkFunc (.func (nat_lit 38)) [] [g1])) p3 
(oSet (xMove g3) p2 
oEnd)) kRet))⟩
def q54 : OpdF := kC (.func (.func (nat_lit 39)) ⟨[]⟩ ⟨[]⟩)
noncomputable def k17 : KFun := ⟨[rCellN (nat_lit 4) g4 (nat_lit 67), rTmp (nat_lit 5) g5], (kSeq (oSet (xTurn (tnAlloc q30)) p4 
(oSet (xMove q0) p5 
oEnd)) (kSeq (kSeq (oSet (xMove g0) p6 
(oSet (xCall q47 [g6]) p7 
(oSet (xLook (lkUn .not g7)) p8 
oEnd))) (kCond g8 (kSeq (oSet (xLook (lkBuild q30 [])) p9 
(oDo (xTurn (tnStore (nat_lit 67) g4 g9)) 
(oSet (xMove q0) p5 
oEnd))) kRet) kSkip)) (kSeq (oSet (xMove g0) p10 
(oSet (xNil g10) p11 
(oSet (xLook (lkFieldAddr (nat_lit 1) g11)) p12 
(oSet (xLook (lkLoad1 g12)) p13 
(oSet (xMove g1) p14 
(oSet (xCall q54 [g13, g14]) p15 
(oSet (xLook (lkExtract (nat_lit 0) g15)) p16 
(oSet (xLook (lkExtract (nat_lit 1) g15)) p17 
(oDo (xTurn (tnStore (nat_lit 67) g4 g16)) 
(oSet (xMove g17) p5 
oEnd)))))))))) kRet)))⟩
noncomputable def k18 : KFun := ⟨[rCell1 (nat_lit 4) g4, rTmp (nat_lit 5) g5], (kSeq (oSet (xTurn (tnBox g0)) p2 
(oSet (xTurn (tnBox g1)) p3 
(oSet (xTurn (tnAlloc q14)) p4 
(oSet (xMove q8) p5 
oEnd)))) (kSeq (kSeq (oSet (xLook (lkLoad1 g2)) p6 
(oSet (xCall q47 [g6]) p7 
(oSet (xLook (lkUn .not g7)) p8 
oEnd))) (kCond g8 (kSeq (oDo (xTurn (tnStore (nat_lit 1) g4 q23)) 
(oSet (xMove q12) p5 
oEnd)) kRet) kSkip)) (kSeq (oSet (xLook (lkMkFunc (.func (nat_lit 40)) [] [g2, g3, g4])) p9 
(oSet (xCall q49 [g9]) p10 
(oSet (xMove g10) p5 
oEnd))) (kSeq (oSet (xLook (lkLoad1 g4)) p11 
(oSet (xMove g5) p12 
(oDo (xTurn (tnStore (nat_lit 1) g4 g11)) 
(oSet (xMove g12) p5 
oEnd)))) kRet))))⟩
def q55 : OpdF := kC (.func (.func (nat_lit 43)) ⟨[]⟩ ⟨[]⟩)
def q56 : OpdF := kC (.func (.func (nat_lit 44)) ⟨[]⟩ ⟨[]⟩)
def q57 : List Value := [(.map none)]
def q58 : List Value := [.nilFunc, .nilFunc]
def q59 : OpdF := kC (.func (.func (nat_lit 45)) ⟨[]⟩ ⟨[]⟩)
def q60 : List Value := [(.int .u8 (.ofNat (nat_lit 0))), (.int .u8 (.ofNat (nat_lit 0))), (.int .u8 (.ofNat (nat_lit 0))), (.int .u8 (.ofNat (nat_lit 0)))]
def q61 : OpdF := kC (.int .u8 (.ofNat (nat_lit 82)))
def q62 : OpdF := kC (.int .u8 (.ofNat (nat_lit 69)))
def q63 : OpdF := kC (.int .u8 (.ofNat (nat_lit 84)))
def q64 : OpdF := kC (.int .u8 (.ofNat (nat_lit 67)))
def q65 : OpdF := kC (.func (.func (nat_lit 51)) ⟨[]⟩ ⟨[]⟩)
def q66 : List Value := [(.int .u8 (.ofNat (nat_lit 0))), (.int .u8 (.ofNat (nat_lit 0))), (.int .u8 (.ofNat (nat_lit 0))), (.int .u8 (.ofNat (nat_lit 0))), (.int .u8 (.ofNat (nat_lit 0))), (.int .u8 (.ofNat (nat_lit 0))), (.int .u8 (.ofNat (nat_lit 0))), (.int .u8 (.ofNat (nat_lit 0))), (.int .u8 (.ofNat (nat_lit 0))), (.int .u8 (.ofNat (nat_lit 0))), (.int .u8 (.ofNat (nat_lit 0))), (.int .u8 (.ofNat (nat_lit 0))), (.int .u8 (.ofNat (nat_lit 0))), (.int .u8 (.ofNat (nat_lit 0))), (.int .u8 (.ofNat (nat_lit 0))), (.int .u8 (.ofNat (nat_lit 0))), (.int .u8 (.ofNat (nat_lit 0))), (.int .u8 (.ofNat (nat_lit 0))), (.int .u8 (.ofNat (nat_lit 0))), (.int .u8 (.ofNat (nat_lit 0))), (.int .u8 (.ofNat (nat_lit 0))), (.int .u8 (.ofNat (nat_lit 0))), (.int .u8 (.ofNat (nat_lit 0))), (.int .u8 (.ofNat (nat_lit 0))), (.int .u8 (.ofNat (nat_lit 0))), (.int .u8 (.ofNat (nat_lit 0))), (.int .u8 (.ofNat (nat_lit 0))), (.int .u8 (.ofNat (nat_lit 0))), (.int .u8 (.ofNat (nat_lit 0))), (.int .u8 (.ofNat (nat_lit 0))), (.int .u8 (.ofNat (nat_lit 0))), (.int .u8 (.ofNat (nat_lit 0)))]
def q67 : OpdF := kC (.int .i64 (.ofNat (nat_lit 1048576)))
def q68 : OpdF := kC (.int .i64 (.ofNat (nat_lit 3)))
noncomputable def k19 : KFun := ⟨[rTmp (nat_lit 2) g2, rTmp (nat_lit 3) g3], (kSeq (oSet (xTurn (tnBox g0)) p1 
(oSet (xMove q23) p2 
(oSet (xMove q8) p3 
oEnd))) (kSeq (kSeq (oSet (xLook (lkLoad1 g1)) p12 
(oSet (xCall q55 [g12]) p13 
(oSet (xMove g13) p11 
(oSet (xLook (lkExtract (nat_lit 0) g11)) p14 
(oSet (xLook (lkExtract (nat_lit 1) g11)) p15 
(oSet (xMove g14) p4 
(oSet (xMove g15) p5 
oEnd))))))) (kSeq (oSet (xMove g4) p16 
(oSet (xLook (lkEq true .int g16 q8)) p17 
oEnd)) (kCond g17 (kSeq (oSet (xMove g4) p18 
(oSet (xMove q23) p2 
(oSet (xMove g18) p3 
oEnd))) kRet) kSkip))) (kSeq (oSet (xLook (lkLoad1 g1)) p20 
(oSet (xCall q56 [g20]) p21 
(oSet (xMove g21) p19 
(oSet (xLook (lkExtract (nat_lit 0) g19)) p22 
(oSet (xLook (lkExtract (nat_lit 1) g19)) p23 
(oSet (xTurn (tnAlloc q14)) p6 
(oSet (xTurn (tnAlloc q57)) p7 
(oDo (xTurn (tnStore (nat_lit 1) g6 g22)) 
(oDo (xTurn (tnStore (nat_lit 1) g7 g23)) 
oEnd))))))))) (kSeq (oSet (xLook (lkMkFunc (.func (nat_lit 46)) [] [g6])) p24 
(oSet (xLook (lkMkFunc (.func (nat_lit 49)) [] [g1, g7])) p25 
(oSet (xTurn (tnBuildSlice q58 [((nat_lit 0), (nat_lit 1), g24), ((nat_lit 1), (nat_lit 1), g25)] (nat_lit 2))) p26 
(oSet (xCall q59 [g26]) p27 
(oSet (xMove g27) p8 
oEnd))))) (kSeq (oSet (xTurn (tnBuildSlice q60 [((nat_lit 0), (nat_lit 1), q61), ((nat_lit 1), (nat_lit 1), q62), ((nat_lit 2), (nat_lit 1), q63), ((nat_lit 3), (nat_lit 1), q64)] (nat_lit 4))) p28 
(oSet (xTurn (tnStamp g28)) p29 
(oSet (xMove g8) p30 
(oSet (xTurn (tnAppend (nat_lit 1) g29 g30)) p31 
(oSet (xMove g31) p9 
oEnd))))) (kSeq (oSet (xMove g9) p32 
(oSet (xCall q65 [g32]) p33 
(oSet (xTurn (tnAlloc q66)) p10 
(oDo (xTurn (tnStore (nat_lit 32) g10 g33)) 
oEnd)))) (kSeq (oSet (xMove g9) p34 
(oSet (xLook (lkSliceArr (nat_lit 32) (nat_lit 1) g10 none none none)) p35 
(oSet (xTurn (tnAppend (nat_lit 1) g34 g35)) p36 
(oSet (xMove g36) p9 
oEnd)))) (kSeq (kSeq (oSet (xMove g9) p37 
(oSet (xLook (lkLen .sl g37)) p38 
(oSet (xLook (lkBin .gtr g38 q67)) p39 
oEnd))) (kCond g39 (kSeq (oSet (xMove q23) p2 
(oSet (xMove q68) p3 
oEnd)) kRet) kSkip)) (kSeq (oSet (xMove g9) p40 
(oSet (xMove g40) p2 
(oSet (xMove q8) p3 
oEnd))) kRet)))))))))⟩
def q69 : OpdF := kC (.int .i64 (.ofNat (nat_lit 32)))
def q70 : OpdF := kC (.int .i64 (.ofNat (nat_lit 4)))
def q71 : OpdF := kC (.string ⟨⟨[82, 69, 84, 67]⟩⟩)
def q72 : OpdF := kC (.func (.func (nat_lit 52)) ⟨[]⟩ ⟨[]⟩)
def q73 : OpdF := kC (.int .i64 (.ofNat (nat_lit 11)))
def q74 : OpdF := kC (.func (.func (nat_lit 53)) ⟨[]⟩ ⟨[]⟩)
def q75 : List Value := [(.pointer none), (.int .i64 (.ofNat (nat_lit 0))), (.int .i64 (.ofNat (nat_lit 0)))]
def q76 : OpdF := kC (.func (.func (nat_lit 54)) ⟨[]⟩ ⟨[]⟩)
def q77 : OpdF := kC (.map none)
def q78 : OpdF := kC (.func (.func (nat_lit 55)) ⟨[]⟩ ⟨[]⟩)
def q79 : OpdF := kC (.func (.func (nat_lit 56)) ⟨[]⟩ ⟨[]⟩)
def q80 : OpdF := kC (.func (.func (nat_lit 57)) ⟨[]⟩ ⟨[]⟩)
noncomputable def k20 : KFun := ⟨[rTmp (nat_lit 2) g2, rCellN (nat_lit 3) g3 (nat_lit 2)], (kSeq (oSet (xMove q23) p2 
(oSet (xTurn (tnAlloc q35)) p3 
oEnd)) (kSeq (oSet (xMove g0) p11 
(oSet (xLook (lkLen .sl g11)) p12 
(oSet (xLook (lkBin .sub g12 q69)) p13 
(oSet (xMove g13) p4 
oEnd)))) (kSeq (kBlock (nat_lit 0) (kSeq (oSet (xMove g0) p15 
(oSet (xLook (lkLen .sl g15)) p16 
(oSet (xLook (lkBin .gtr g16 q67)) p17 
(oSet (xMove g17) p14 
oEnd)))) (kCond g14 (kSeq (oSet (xLook (lkBuild q35 [((nat_lit 0), (nat_lit 1), q68), ((nat_lit 1), (nat_lit 1), q67)])) p18 
(oSet (xMove q23) p2 
(oDo (xTurn (tnStore (nat_lit 2) g3 g18)) 
oEnd))) kRet) (kSeq (oSet (xMove g4) p20 
(oSet (xLook (lkBin .lss g20 q70)) p21 
(oSet (xMove g21) p22 
(oSetIf (wantF g22) (xMove g0) p23 
(oSetIf (wantF g22) (xLook (lkSliceSl (nat_lit 1) g23 none (some q70) none)) p24 
(oSetIf (wantF g22) (xLook (lkBytesTo g24)) p25 
(oSetIf (wantF g22) (xLook (lkEq true .str g25 q71)) p26 
(oSet (xLook (lkPick g22 q3 g26)) p27 
(oSet (xMove g27) p19 
oEnd))))))))) (kCond g19 (kSeq (oSet (xLook (lkBuild q35 [((nat_lit 0), (nat_lit 1), q70)])) p28 
(oSet (xMove q23) p2 
(oDo (xTurn (tnStore (nat_lit 2) g3 g28)) 
oEnd))) kRet) kSkip))))) (kSeq (oSet (xMove g0) p29 
(oSet (xMove g4) p30 
(oSet (xLook (lkSliceSl (nat_lit 1) g29 none (some g30) none)) p31 
(oSet (xCall q65 [g31]) p32 
(oSet (xTurn (tnAlloc q66)) p5 
(oDo (xTurn (tnStore (nat_lit 32) g5 g32)) 
oEnd)))))) (kSeq (kSeq (kDraw 
(dLook (nat_lit 0) [] [] (lkSliceArr (nat_lit 32) (nat_lit 1) g5 none none none) p33 
(dLook (nat_lit 1) [] [] (lkMove g0) p34 
(dLook (nat_lit 2) [] [] (lkMove g4) p35 
(dLook (nat_lit 3) [] [] (lkSliceSl (nat_lit 1) g34 (some g35) none none) p36 
(dTurn (nat_lit 4) [] [] true (xCall q72 [g33, g36]) p37 
(dLook (nat_lit 5) [] [(nat_lit 4)] (lkUn .not g37) p38 (dEnd [(nat_lit 33), (nat_lit 34), (nat_lit 35), (nat_lit 36), (nat_lit 37), (nat_lit 38)])))))))) (kCond g38 (kSeq (oSet (xMove g4) p39 
(oSet (xLook (lkBuild q35 [((nat_lit 0), (nat_lit 1), q73), ((nat_lit 1), (nat_lit 1), g39)])) p40 
(oSet (xMove q23) p2 
(oDo (xTurn (tnStore (nat_lit 2) g3 g40)) 
oEnd)))) kRet) kSkip)) (kSeq (oSet (xMove g0) p41 
(oSet (xMove g4) p42 
(oSet (xLook (lkSliceSl (nat_lit 1) g41 (some q70) (some g42) none)) p43 
(oSet (xCall q74 [g43]) p44 
(oSet (xLook (lkBuild q75 [((nat_lit 0), (nat_lit 1), g44)])) p45 
(oSet (xTurn (tnBox g45)) p46 
(oSet (xMove g46) p6 
oEnd))))))) (kSeq (oSet (xMove g6) p47 
(oSet (xCall q76 [g47]) p48 
(oSet (xMove g48) p7 
oEnd))) (kSeq (oSet (xMove q23) p8 
oEnd) (kSeq (oSet (xMove q77) p9 
oEnd) (kSeq (kSeq (oSet (xMove g6) p49 
(oSet (xCall q78 [g49]) p50 
(oSet (xLook (lkUn .not g50)) p51 
oEnd))) (kCond g51 (oSet (xMove g6) p53 
(oSet (xMove g7) p54 
(oSet (xCall q79 [g53, g54]) p55 
(oSet (xMove g55) p52 
(oSet (xLook (lkExtract (nat_lit 0) g52)) p56 
(oSet (xLook (lkExtract (nat_lit 1) g52)) p57 
(oSet (xMove g56) p8 
(oSet (xMove g57) p9 
oEnd)))))))) kSkip)) (kSeq (oSet (xMove g6) p58 
(oSet (xNil g58) p59 
(oSet (xLook (lkFieldAddr (nat_lit 1) g59)) p60 
(oSet (xLook (lkLoadN (nat_lit 2) g60)) p61 
(oSet (xTurn (tnAlloc q35)) p10 
(oDo (xTurn (tnStore (nat_lit 2) g10 g61)) 
oEnd)))))) (kSeq (kSeq (oSet (xLook (lkFieldAddr (nat_lit 0) g10)) p62 
(oSet (xLook (lkLoad1 g62)) p63 
(oSet (xLook (lkEq false .int g63 q8)) p64 
oEnd))) (kCond g64 (oSet (xMove g6) p65 
(oSet (xNil g65) p66 
(oSet (xLook (lkFieldAddr (nat_lit 0) g66)) p67 
(oSet (xLook (lkLoad1 g67)) p68 
(oSet (xCall q80 [g68]) p69 
(oDo (xTurn (tnStore (nat_lit 2) g10 g69)) 
oEnd)))))) kSkip)) (kSeq (kSeq (oSet (xLook (lkFieldAddr (nat_lit 0) g10)) p70 
(oSet (xLook (lkLoad1 g70)) p71 
(oSet (xLook (lkEq true .int g71 q8)) p72 
oEnd))) (kCond g72 (kSeq (kDraw 
(dLook (nat_lit 0) [] [] (lkFieldAddr (nat_lit 0) g10) p73 
(dLook (nat_lit 1) [] [] (lkLoad1 g73) p74 
(dLook (nat_lit 2) [] [] (lkFieldAddr (nat_lit 1) g10) p75 
(dLook (nat_lit 3) [] [] (lkLoad1 g75) p76 
(dLook (nat_lit 4) [] [] (lkBin .add q70 g76) p77 
(dLook (nat_lit 5) [] [] (lkBuild q35 [((nat_lit 0), (nat_lit 1), g74), ((nat_lit 1), (nat_lit 1), g77)]) p78 
(dLook (nat_lit 6) [] [] (lkMove q23) p2 
(dTurn (nat_lit 7) [] [] true (xTurn (tnStore (nat_lit 2) g3 g78)) noDst (dEnd [(nat_lit 73), (nat_lit 74), (nat_lit 75), (nat_lit 76), (nat_lit 77), (nat_lit 78), (nat_lit 2)])))))))))) kRet) kSkip)) (kSeq (kSeq (oSet (xMove g9) p79 
(oSet (xLook (lkLen .map g79)) p80 
(oSet (xMove g7) p81 
(oSet (xLook (lkLen .sl g81)) p82 
(oSet (xLook (lkEq true .int g80 g82)) p83 
oEnd))))) (kCond g83 (kSeq (oSet (xLook (lkBuild q35 [((nat_lit 0), (nat_lit 1), q9), ((nat_lit 1), (nat_lit 1), q70)])) p84 
(oSet (xMove q23) p2 
(oDo (xTurn (tnStore (nat_lit 2) g3 g84)) 
oEnd))) kRet) kSkip)) (kSeq (oSet (xMove g8) p85 
(oSet (xLook (lkBuild q35 [])) p86 
(oSet (xMove g85) p2 
(oDo (xTurn (tnStore (nat_lit 2) g3 g86)) 
oEnd)))) kRet)))))))))))))))⟩
def q81 : OpdF := kC (.func (.func (nat_lit 58)) ⟨[]⟩ ⟨[]⟩)
noncomputable def k21 : KFun := ⟨[rTmp (nat_lit 2) g2], (kSeq (oSet (xMove q23) p2 
oEnd) (kSeq (oSet (xMove g0) p3 
(oSet (xCall q81 [q23, g3]) p4 
(oSet (xMove g4) p2 
oEnd))) kRet))⟩
noncomputable def k22 : KFun := ⟨[rTmp (nat_lit 4) g4], (kSeq (oSet (xTurn (tnBox g0)) p2 
(oSet (xTurn (tnBox g1)) p3 
(oSet (xMove q53) p4 
oEnd))) (kSeq (oSet (xLook (lkMkFunc (.func (nat_lit 59)) [] [g2, g3])) p5 
(oSet (xMove g5) p4 
oEnd)) kRet))⟩
def q82 : OpdF := kC (.func (.func (nat_lit 61)) ⟨[]⟩ ⟨[]⟩)
def q83 : OpdF := kC (.func (.func (nat_lit 62)) ⟨[]⟩ ⟨[]⟩)
noncomputable def k23 : KFun := ⟨[rTmp (nat_lit 2) g2], (kSeq (oSet (xMove q23) p2 
oEnd) (kSeq (kSeq (oSet (xMove g0) p5 
(oSet (xCall q47 [g5]) p6 
(oSet (xLook (lkUn .not g6)) p7 
oEnd))) (kCond g7 (kSeq (oSet (xMove q23) p2 
oEnd) kRet) kSkip)) (kSeq (oSet (xMove g0) p8 
(oSet (xNil g8) p9 
(oSet (xLook (lkFieldAddr (nat_lit 1) g9)) p10 
(oSet (xLook (lkLoad1 g10)) p11 
(oSet (xCall q82 [g11]) p12 
(oSet (xMove g12) p3 
oEnd)))))) (kSeq (kSeq (oSet (xMove g3) p13 
(oSet (xLook (lkLen .sl g13)) p14 
(oSet (xMove q8) p15 
oEnd))) (kBlock (nat_lit 0) (kLoop (kSeq (oSet (xLook (lkBin .lss g15 g14)) p16 
oEnd) (kSeq (kCond g16 kSkip (kExit (nat_lit 0))) (kSeq (kBlock (nat_lit 1) (kSeq (oSet (xMove g15) p17 
(oSet (xMove g17) p4 
oEnd)) (oSet (xMove g3) p18 
(oSet (xMove g4) p19 
(oSet (xMove g3) p20 
(oSet (xMove g4) p21 
(oSet (xLook (lkIxSl (nat_lit 67) g20 g21)) p22 
(oSet (xLook (lkFieldAddr (nat_lit 66) g22)) p23 
(oSet (xLook (lkLoad1 g23)) p24 
(oSet (xCall q83 [g24]) p25 
(oSet (xLook (lkIxSl (nat_lit 67) g18 g19)) p26 
(oSet (xLook (lkFieldAddr (nat_lit 66) g26)) p27 
(oDo (xTurn (tnStore (nat_lit 1) g27 g25)) 
oEnd))))))))))))) (oSet (xLook (lkBin .add g15 q12)) p28 
(oSet (xMove g28) p15 
oEnd)))))))) (kSeq (oSet (xMove g3) p29 
(oSet (xMove g29) p2 
oEnd)) kRet)))))⟩
def q85 : OpdF := kC (.int .i64 (.ofNat (nat_lit 65536)))
def q86 : OpdF := kC (.int .i64 (.ofNat (nat_lit 5)))
def q87 : List Value := [(.int .i64 (.ofNat (nat_lit 0))), (.int .i64 (.ofNat (nat_lit 0))), (.bool false)]
def q88 : OpdF := kC (.int .i64 (.negSucc (nat_lit 0)))
def q89 : List Value := [(.int .i64 (.ofNat (nat_lit 0))), (.int .i64 (.ofNat (nat_lit 0))), (.bool false), (.bool false), (.int .i64 (.ofNat (nat_lit 0))), (.map none), (.slice none (nat_lit 0) (nat_lit 0))]
noncomputable def k25 : KFun := ⟨[rTmp (nat_lit 2) g2, rTmp (nat_lit 3) g3], (kSeq (oSet (xMove q5) p2 
(oSet (xMove q8) p3 
oEnd)) (kSeq (kSeq (oSet (xMove g0) p4 
(oSet (xLook (lkBin .lss g4 q8)) p5 
(oSet (xMove g5) p6 
(oSetIf (wantF g6) (xMove g0) p7 
(oSetIf (wantF g6) (xLook (lkBin .gtr g7 q85)) p8 
(oSet (xLook (lkPick g6 q3 g8)) p9 
oEnd)))))) (kCond g9 (kSeq (oSet (xMove q5) p2 
(oSet (xMove q86) p3 
oEnd)) kRet) kSkip)) (kSeq (oSet (xLook (lkBuild q87 [((nat_lit 1), (nat_lit 1), q88)])) p10 
(oSet (xMove g0) p11 
(oSet (xTurn (tnMkMap (.one (.int .i64)))) p12 
(oSet (xLook (lkBuild q89 [((nat_lit 0), (nat_lit 3), g10), ((nat_lit 3), (nat_lit 1), q3), ((nat_lit 4), (nat_lit 1), g11), ((nat_lit 5), (nat_lit 1), g12)])) p13 
(oSet (xTurn (tnBox g13)) p14 
(oSet (xMove g14) p2 
(oSet (xMove q8) p3 
oEnd))))))) kRet)))⟩
def q90 : OpdF := kC (.func (.func (nat_lit 64)) ⟨[]⟩ ⟨[]⟩)
def q91 : OpdF := kC (.func (.func (nat_lit 65)) ⟨[]⟩ ⟨[]⟩)
def q92 : OpdF := kC (.func (.func (nat_lit 66)) ⟨[]⟩ ⟨[]⟩)
def q93 : List Value := [(.slice none (nat_lit 0) (nat_lit 0)), (.map none), (.pointer none), (.int .i64 (.ofNat (nat_lit 0))), (.int .u8 (.ofNat (nat_lit 0))), (.int .u8 (.ofNat (nat_lit 0))), (.int .u8 (.ofNat (nat_lit 0))), (.int .u8 (.ofNat (nat_lit 0))), (.int .u8 (.ofNat (nat_lit 0))), (.int .u8 (.ofNat (nat_lit 0))), (.int .u8 (.ofNat (nat_lit 0))), (.int .u8 (.ofNat (nat_lit 0))), (.int .u8 (.ofNat (nat_lit 0))), (.int .u8 (.ofNat (nat_lit 0))), (.int .u8 (.ofNat (nat_lit 0))), (.int .u8 (.ofNat (nat_lit 0))), (.int .u8 (.ofNat (nat_lit 0))), (.int .u8 (.ofNat (nat_lit 0))), (.int .u8 (.ofNat (nat_lit 0))), (.int .u8 (.ofNat (nat_lit 0))), (.int .u8 (.ofNat (nat_lit 0))), (.int .u8 (.ofNat (nat_lit 0))), (.int .u8 (.ofNat (nat_lit 0))), (.int .u8 (.ofNat (nat_lit 0))), (.int .u8 (.ofNat (nat_lit 0))), (.int .u8 (.ofNat (nat_lit 0))), (.int .u8 (.ofNat (nat_lit 0))), (.int .u8 (.ofNat (nat_lit 0))), (.int .u8 (.ofNat (nat_lit 0))), (.int .u8 (.ofNat (nat_lit 0))), (.int .u8 (.ofNat (nat_lit 0))), (.int .u8 (.ofNat (nat_lit 0))), (.int .u8 (.ofNat (nat_lit 0))), (.int .u8 (.ofNat (nat_lit 0))), (.int .u8 (.ofNat (nat_lit 0))), (.int .u8 (.ofNat (nat_lit 0))), (.int .i64 (.ofNat (nat_lit 0))), (.int .i64 (.ofNat (nat_lit 0))), (.map none), (.bool false)]
def q94 : OpdF := kC (.func (.func (nat_lit 67)) ⟨[]⟩ ⟨[]⟩)
def q95 : List Value := [(.int .i64 (.ofNat (nat_lit 0))), (.int .u8 (.ofNat (nat_lit 0))), (.int .u8 (.ofNat (nat_lit 0))), (.int .u8 (.ofNat (nat_lit 0))), (.int .u8 (.ofNat (nat_lit 0))), (.int .u8 (.ofNat (nat_lit 0))), (.int .u8 (.ofNat (nat_lit 0))), (.int .u8 (.ofNat (nat_lit 0))), (.int .u8 (.ofNat (nat_lit 0))), (.int .u8 (.ofNat (nat_lit 0))), (.int .u8 (.ofNat (nat_lit 0))), (.int .u8 (.ofNat (nat_lit 0))), (.int .u8 (.ofNat (nat_lit 0))), (.int .u8 (.ofNat (nat_lit 0))), (.int .u8 (.ofNat (nat_lit 0))), (.int .u8 (.ofNat (nat_lit 0))), (.int .u8 (.ofNat (nat_lit 0))), (.int .u8 (.ofNat (nat_lit 0))), (.int .u8 (.ofNat (nat_lit 0))), (.int .u8 (.ofNat (nat_lit 0))), (.int .u8 (.ofNat (nat_lit 0))), (.int .u8 (.ofNat (nat_lit 0))), (.int .u8 (.ofNat (nat_lit 0))), (.int .u8 (.ofNat (nat_lit 0))), (.int .u8 (.ofNat (nat_lit 0))), (.int .u8 (.ofNat (nat_lit 0))), (.int .u8 (.ofNat (nat_lit 0))), (.int .u8 (.ofNat (nat_lit 0))), (.int .u8 (.ofNat (nat_lit 0))), (.int .u8 (.ofNat (nat_lit 0))), (.int .u8 (.ofNat (nat_lit 0))), (.int .u8 (.ofNat (nat_lit 0))), (.int .u8 (.ofNat (nat_lit 0))), (.int .i64 (.ofNat (nat_lit 0))), (.int .i64 (.ofNat (nat_lit 0)))]
def q96 : OpdF := kC (.func (.func (nat_lit 68)) ⟨[]⟩ ⟨[]⟩)
def q97 : OpdF := kC (.func (.func (nat_lit 69)) ⟨[]⟩ ⟨[]⟩)
def q98 : OpdF := kC (.func (.func (nat_lit 70)) ⟨[]⟩ ⟨[]⟩)
def q99 : OpdF := kC (.func (.func (nat_lit 71)) ⟨[]⟩ ⟨[]⟩)
def q100 : OpdF := kC (.func (.func (nat_lit 72)) ⟨[]⟩ ⟨[]⟩)
noncomputable def k26 : KFun := ⟨[rTmp (nat_lit 2) g2, rTmp (nat_lit 3) g3], (kSeq (oSet (xMove q5) p2 
(oSet (xMove q8) p3 
oEnd)) (kSeq (kSeq (oSet (xMove g0) p16 
(oSet (xCall q90 [g16, q8]) p17 
(oSet (xMove g17) p15 
(oSet (xLook (lkExtract (nat_lit 0) g15)) p18 
(oSet (xLook (lkExtract (nat_lit 1) g15)) p19 
(oSet (xMove g18) p4 
(oSet (xMove g19) p5 
oEnd))))))) (kSeq (oSet (xMove g5) p20 
(oSet (xLook (lkEq false .int g20 q12)) p21 
oEnd)) (kCond g21 (kSeq (oSet (xMove g5) p22 
(oSet (xMove q5) p2 
(oSet (xMove g22) p3 
oEnd))) kRet) kSkip))) (kSeq (kSeq (oSet (xMove g0) p23 
(oSet (xCall q91 [g23]) p24 
(oSet (xLook (lkBin .lss g24 q70)) p25 
oEnd))) (kCond g25 (kSeq (oSet (xMove q5) p2 
(oSet (xMove q41) p3 
oEnd)) kRet) kSkip)) (kSeq (oSet (xCall q92 []) p26 
(oSet (xMove g0) p27 
(oSet (xTurn (tnMkMap (.many (nat_lit 32) .u8))) p28 
(oSet (xLook (lkBuild q93 [((nat_lit 0), (nat_lit 2), g26), ((nat_lit 2), (nat_lit 1), g27), ((nat_lit 38), (nat_lit 1), g28)])) p29 
(oSet (xTurn (tnBox g29)) p30 
(oSet (xMove g30) p6 
oEnd)))))) (kSeq (oSet (xMove g0) p32 
(oSet (xCall q94 [g32]) p33 
(oSet (xMove g33) p31 
(oSet (xLook (lkExtract (nat_lit 0) g31)) p34 
(oSet (xLook (lkExtract (nat_lit 1) g31)) p35 
(oSet (xLook (lkExtract (nat_lit 2) g31)) p36 
(oSet (xTurn (tnAlloc q95)) p7 
(oDo (xTurn (tnStore (nat_lit 35) g7 g34)) 
(oSet (xMove g35) p8 
(oSet (xMove g36) p9 
oEnd)))))))))) (kSeq (kSeq (oSet (xMove g9) p37 
oEnd) (kBlock (nat_lit 0) (kSeq (oSet (xLook (lkEq false .int g37 q8)) p40 
(oSet (xMove g40) p39 
oEnd)) (kCond g39 kSkip (kSeq (oSet (xLook (lkEq false .int g37 q20)) p42 
(oSet (xMove g42) p41 
oEnd)) (kCond g41 (kSeq (oSet (xMove g6) p43 
(oSet (xMove g43) p2 
(oSet (xMove q8) p3 
oEnd))) kRet) (kSeq (oSet (xMove g9) p38 
(oSet (xMove q5) p2 
(oSet (xMove g38) p3 
oEnd))) kRet))))))) (kSeq (kDraw 
(dLook (nat_lit 0) [] [] (lkMove g6) p44 
(dLook (nat_lit 1) [] [] (lkMove g6) p45 
(dLook (nat_lit 2) [] [] (lkMove g6) p46 
(dLook (nat_lit 3) [] [] (lkFieldAddr (nat_lit 0) g7) p47 
(dLook (nat_lit 4) [] [] (lkLoad1 g47) p48 
(dLook (nat_lit 5) [] [] (lkFieldAddr (nat_lit 1) g7) p49 
(dLook (nat_lit 6) [] [] (lkLoadN (nat_lit 32) g49) p50 
(dLook (nat_lit 7) [] [] (lkFieldAddr (nat_lit 33) g7) p51 
(dLook (nat_lit 8) [] [] (lkLoad1 g51) p52 
(dLook (nat_lit 9) [] [] (lkFieldAddr (nat_lit 34) g7) p53 
(dLook (nat_lit 10) [] [] (lkLoad1 g53) p54 
(dLook (nat_lit 11) [] [] (lkBuild q35 [((nat_lit 0), (nat_lit 1), g52), ((nat_lit 1), (nat_lit 1), g54)]) p55 
(dTurn (nat_lit 12) [] [] false (xNil g44) p56 
(dLook (nat_lit 13) [] [] (lkFieldAddr (nat_lit 3) g56) p57 
(dTurn (nat_lit 14) [(nat_lit 6), (nat_lit 8), (nat_lit 10)] [] true (xTurn (tnStore (nat_lit 1) g57 g48)) noDst 
(dTurn (nat_lit 15) [] [(nat_lit 14)] false (xNil g45) p58 
(dLook (nat_lit 16) [] [(nat_lit 14)] (lkFieldAddr (nat_lit 4) g58) p59 
(dTurn (nat_lit 17) [(nat_lit 8), (nat_lit 10)] [(nat_lit 14)] true (xTurn (tnStore (nat_lit 32) g59 g50)) noDst 
(dTurn (nat_lit 18) [] [(nat_lit 14), (nat_lit 17)] false (xNil g46) p60 
(dLook (nat_lit 19) [] [(nat_lit 14), (nat_lit 17)] (lkFieldAddr (nat_lit 36) g60) p61 
(dTurn (nat_lit 20) [] [(nat_lit 14), (nat_lit 17)] true (xTurn (tnStore (nat_lit 2) g61 g55)) noDst (dEnd [(nat_lit 44), (nat_lit 45), (nat_lit 46), (nat_lit 47), (nat_lit 48), (nat_lit 49), (nat_lit 50), (nat_lit 51), (nat_lit 52), (nat_lit 53), (nat_lit 54), (nat_lit 55), (nat_lit 56), (nat_lit 57), (nat_lit 58), (nat_lit 59), (nat_lit 60), (nat_lit 61)]))))))))))))))))))))))) (kSeq (kSeq (oSet (xMove g0) p62 
(oSet (xMove g6) p63 
(oSet (xNil g63) p64 
(oSet (xLook (lkFieldAddr (nat_lit 36) g64)) p65 
(oSet (xLook (lkLoadN (nat_lit 2) g65)) p66 
(oSet (xCall q96 [g62, g66]) p67 
(oSet (xLook (lkUn .not g67)) p68 
oEnd))))))) (kCond g68 (kSeq (oSet (xMove q5) p2 
(oSet (xMove q73) p3 
oEnd)) kRet) kSkip)) (kSeq (kDraw 
(dLook (nat_lit 0) [] [] (lkMove g0) p70 
(dLook (nat_lit 1) [] [] (lkFieldAddr (nat_lit 33) g7) p71 
(dLook (nat_lit 2) [] [] (lkLoad1 g71) p72 
(dLook (nat_lit 3) [] [] (lkMove g6) p73 
(dTurn (nat_lit 4) [] [] false (xNil g73) p74 
(dLook (nat_lit 5) [] [] (lkFieldAddr (nat_lit 36) g74) p75 
(dLook (nat_lit 6) [] [] (lkLoadN (nat_lit 2) g75) p76 
(dTurn (nat_lit 7) [(nat_lit 2)] [] true (xCall q98 [g76]) p77 
(dTurn (nat_lit 8) [] [(nat_lit 7)] true (xCall q97 [g70, g72, g77]) p78 
(dLook (nat_lit 9) [] [(nat_lit 7), (nat_lit 8)] (lkMove g78) p69 
(dLook (nat_lit 10) [] [(nat_lit 7), (nat_lit 8)] (lkExtract (nat_lit 0) g69) p79 
(dLook (nat_lit 11) [] [(nat_lit 7), (nat_lit 8)] (lkExtract (nat_lit 1) g69) p80 
(dLook (nat_lit 12) [] [(nat_lit 7), (nat_lit 8)] (lkMove g79) p10 
(dLook (nat_lit 13) [] [(nat_lit 7), (nat_lit 8)] (lkMove g80) p9 (dEnd [(nat_lit 70), (nat_lit 71), (nat_lit 72), (nat_lit 73), (nat_lit 74), (nat_lit 75), (nat_lit 76), (nat_lit 77), (nat_lit 78), (nat_lit 69), (nat_lit 79), (nat_lit 80), (nat_lit 10), (nat_lit 9)])))))))))))))))) (kSeq (kSeq (oSet (xMove g9) p81 
(oSet (xLook (lkEq true .int g81 q8)) p82 
oEnd)) (kCond g82 (kSeq (oSet (xMove g9) p83 
(oSet (xMove q5) p2 
(oSet (xMove g83) p3 
oEnd))) kRet) kSkip)) (kSeq (oSet (xMove g10) p85 
(oSet (xCall q99 [g85]) p86 
(oSet (xMove g86) p84 
(oSet (xLook (lkExtract (nat_lit 0) g84)) p87 
(oSet (xLook (lkExtract (nat_lit 1) g84)) p88 
(oSet (xLook (lkExtract (nat_lit 2) g84)) p89 
(oSet (xMove g87) p11 
(oSet (xMove g88) p12 
(oSet (xMove g89) p9 
oEnd))))))))) (kSeq (kSeq (oSet (xMove g9) p90 
(oSet (xLook (lkEq true .int g90 q8)) p91 
(oSet (xMove g91) p92 
(oSetIf (wantF g92) (xMove g11) p93 
(oSetIf (wantF g92) (xLook (lkEq true .int g93 q9)) p94 
(oSet (xLook (lkPick g92 q3 g94)) p95 
(oSet (xMove g95) p96 
(oSetIf (wantF g96) (xMove g12) p97 
(oSetIf (wantF g96) (xLook (lkLen .sl g97)) p98 
(oSetIf (wantF g96) (xLook (lkFieldAddr (nat_lit 34) g7)) p99 
(oSetIf (wantF g96) (xLook (lkLoad1 g99)) p100 
(oSetIf (wantF g96) (xLook (lkEq true .int g98 g100)) p101 
(oSet (xLook (lkPick g96 q3 g101)) p102 
oEnd))))))))))))) (kCond g102 (kSeq (oSet (xMove q5) p2 
(oSet (xMove q73) p3 
oEnd)) kRet) kSkip)) (kSeq (oSet (xMove g0) p104 
(oSet (xMove g12) p105 
(oSet (xMove g6) p106 
(oSet (xNil g106) p107 
(oSet (xLook (lkFieldAddr (nat_lit 36) g107)) p108 
(oSet (xLook (lkLoadN (nat_lit 2) g108)) p109 
(oSet (xCall q100 [g104, g105, g109]) p110 
(oSet (xMove g110) p103 
(oSet (xLook (lkExtract (nat_lit 0) g103)) p111 
(oSet (xLook (lkExtract (nat_lit 1) g103)) p112 
(oSet (xMove g111) p13 
(oSet (xMove g112) p14 
oEnd)))))))))))) (kSeq (kSeq (oSet (xMove g14) p113 
(oSet (xLook (lkUn .not g113)) p114 
oEnd)) (kCond g114 (kSeq (oSet (xMove q5) p2 
(oSet (xMove q73) p3 
oEnd)) kRet) kSkip)) (kSeq (oSet (xMove g6) p115 
(oSet (xMove g13) p116 
(oSet (xNil g115) p117 
(oSet (xLook (lkFieldAddr (nat_lit 38) g117)) p118 
(oDo (xTurn (tnStore (nat_lit 1) g118 g116)) 
oEnd))))) (kSeq (oSet (xMove g6) p119 
(oSet (xMove g119) p2 
(oSet (xMove q8) p3 
oEnd))) kRet))))))))))))))))⟩
def q101 : OpdF := kC (.func (.func (nat_lit 73)) ⟨[]⟩ ⟨[]⟩)
def q102 : List Value := [(.pointer none)]
def q103 : OpdF := kC (.func (.func (nat_lit 74)) ⟨[]⟩ ⟨[]⟩)
noncomputable def k27 : KFun := ⟨[rTmp (nat_lit 2) g2, rTmp (nat_lit 3) g3], (kSeq (oSet (xMove q5) p2 
(oSet (xMove q8) p3 
oEnd)) (kSeq (kSeq (oSet (xMove g0) p6 
(oSet (xCall q101 [g6]) p7 
(oSet (xLook (lkUn .not g7)) p8 
oEnd))) (kCond g8 (kSeq (oSet (xMove q5) p2 
(oSet (xMove q12) p3 
oEnd)) kRet) kSkip)) (kSeq (oSet (xMove g0) p9 
(oSet (xLook (lkBuild q102 [((nat_lit 0), (nat_lit 1), g9)])) p10 
(oSet (xLook (lkBuild q6 [((nat_lit 0), (nat_lit 1), g10)])) p11 
(oSet (xTurn (tnBox g11)) p12 
(oSet (xMove g12) p4 
oEnd))))) (kSeq (kSeq (oSet (xMove g4) p13 
(oSet (xCall q103 [g13]) p14 
(oSet (xMove g14) p5 
oEnd))) (kSeq (oSet (xMove g5) p15 
(oSet (xLook (lkEq true .int g15 q8)) p16 
oEnd)) (kCond g16 (kSeq (oSet (xMove g5) p17 
(oSet (xMove q5) p2 
(oSet (xMove g17) p3 
oEnd))) kRet) kSkip))) (kSeq (oSet (xMove g4) p18 
(oSet (xMove g18) p2 
(oSet (xMove q8) p3 
oEnd))) kRet)))))⟩
noncomputable def k28 : KFun := ⟨[rTmp (nat_lit 2) g2], (kSeq (oSet (xMove q0) p2 
oEnd) (kSeq (oSet (xMove g0) p3 
(oSet (xLook (lkEq true .ptr g3 q5)) p4 
(oSet (xMove g4) p5 
(oSetIf (wantT g5) (xMove g0) p6 
(oSetIf (wantT g5) (xNil g6) p7 
(oSetIf (wantT g5) (xLook (lkFieldAddr (nat_lit 0) g7)) p8 
(oSetIf (wantT g5) (xLook (lkFieldAddr (nat_lit 0) g8)) p9 
(oSetIf (wantT g5) (xLook (lkLoad1 g9)) p10 
(oSetIf (wantT g5) (xLook (lkEq true .ptr g10 q5)) p11 
(oSet (xLook (lkPick g5 g11 q0)) p12 
(oSet (xMove g12) p2 
oEnd))))))))))) kRet))⟩
def q104 : OpdF := kC (.string ⟨⟨[]⟩⟩)
def q105 : OpdF := kC (.int .i64 (.ofNat (nat_lit 20)))
def q106 : OpdF := kC (.func (.func (nat_lit 75)) ⟨[]⟩ ⟨[]⟩)
def q107 : OpdF := kC (.string ⟨⟨[97, 98, 99, 100, 101, 102, 103, 104, 105, 106, 107, 108, 109, 110, 111, 112, 113, 114, 115, 116, 117, 118, 119, 120, 121, 122, 48, 49, 50, 51, 52, 53, 54, 55, 56, 57, 46, 45, 95]⟩⟩)
noncomputable def k29 : KFun := ⟨[rTmp (nat_lit 2) g2], (kSeq (oSet (xMove q0) p2 
oEnd) (kSeq (oSet (xMove g0) p3 
(oSet (xLook (lkEq true .str g3 q104)) p4 
(oSet (xMove g4) p5 
(oSetIf (wantT g5) (xMove g0) p6 
(oSetIf (wantT g5) (xLook (lkLen .str g6)) p7 
(oSetIf (wantT g5) (xLook (lkBin .leq g7 q105)) p8 
(oSet (xLook (lkPick g5 g8 q0)) p9 
(oSet (xMove g9) p10 
(oSetIf (wantT g10) (xMove g0) p11 
(oSetIf (wantT g10) (xCall q106 [g11, q107]) p12 
(oSetIf (wantT g10) (xLook (lkEq false .str g12 q104)) p13 
(oSet (xLook (lkPick g10 g13 q0)) p14 
(oSet (xMove g14) p2 
oEnd))))))))))))) kRet))⟩
def q108 : List Value := [(.int .i64 (.ofNat (nat_lit 0)))]
noncomputable def k30 : KFun := ⟨[rCell1 (nat_lit 2) g2], (kSeq (oSet (xTurn (tnAlloc q108)) p2 
oEnd) (kSeq (oSet (xLook (lkMkFunc (.func (nat_lit 76)) [] [g2])) p3 
(oDo (xDefer g3 []) 
oEnd)) (kSeq (oSet (xMove g0) p4 
(oSet (xCall g4 []) p5 
oEnd)) (kSeq (oDo (xTurn (tnStore (nat_lit 1) g2 q8)) 
oEnd) kRet))))⟩
def q109 : OpdF := kC (.func (.func (nat_lit 32)) ⟨[]⟩ ⟨[]⟩)
def q110 : OpdF := kC (.func (.func (nat_lit 33)) ⟨[]⟩ ⟨[]⟩)
def q111 : OpdF := kC (.func (.func (nat_lit 34)) ⟨[]⟩ ⟨[]⟩)
noncomputable def k31 : KFun := ⟨[], (kSeq (oSet (xLook (lkLoad1 g0)) p6 
(oSet (xCall q109 [g6]) p7 
(oSet (xMove g7) p5 
(oSet (xLook (lkExtract (nat_lit 0) g5)) p8 
(oSet (xLook (lkExtract (nat_lit 1) g5)) p9 
(oSet (xMove g8) p3 
(oSet (xMove g9) p4 
oEnd))))))) (kSeq (oSet (xMove g4) p10 
(oSet (xCall q110 [g10]) p11 
oEnd)) (oSet (xLook (lkLoad1 g1)) p12 
(oSet (xLook (lkLoad1 g2)) p13 
(oSet (xLook (lkLoad1 g0)) p14 
(oSet (xMove g3) p15 
(oSet (xCall q111 [g12, g13, g14, g15]) p16 
oEnd)))))))⟩
def q112 : OpdF := kC (.func (.func (nat_lit 77)) ⟨[]⟩ ⟨[]⟩)
noncomputable def k32 : KFun := ⟨[rTmp (nat_lit 2) g2, rTmp (nat_lit 3) g3], (kSeq (oSet (xMove q23) p2 
(oSet (xMove q8) p3 
oEnd)) (kSeq (oSet (xMove g0) p8 
(oSet (xCall q112 [q23, g8]) p9 
(oSet (xMove g9) p7 
(oSet (xLook (lkExtract (nat_lit 0) g7)) p10 
(oSet (xLook (lkExtract (nat_lit 1) g7)) p11 
(oSet (xLook (lkExtract (nat_lit 2) g7)) p12 
(oSet (xMove g10) p4 
(oSet (xMove g11) p5 
(oSet (xMove g12) p6 
oEnd))))))))) (kSeq (oSet (xMove g4) p13 
(oSet (xMove g6) p14 
(oSet (xMove g13) p2 
(oSet (xMove g14) p3 
oEnd)))) kRet)))⟩
noncomputable def k33 : KFun := ⟨[], (kSeq (oSet (xMove g0) p2 
(oSet (xLook (lkEq true .int g2 q8)) p3 
oEnd)) (kCond g3 (oSet (xMove g0) p4 
(oSet (xLook (lkBuild q108 [((nat_lit 0), (nat_lit 1), g4)])) p5 
(oSet (xLook (lkMkIface (nat_lit 160) g5)) p6 
(oDo (xPanic g6) 
oEnd)))) kSkip))⟩
def q113 : OpdF := kC (.func (.func (nat_lit 78)) ⟨[]⟩ ⟨[]⟩)
def q114 : OpdF := kC (.func (.func (nat_lit 79)) ⟨[]⟩ ⟨[]⟩)
def q115 : OpdF := kC (.func (.func (nat_lit 80)) ⟨[]⟩ ⟨[]⟩)
def q116 : OpdF := kC (.func (.func (nat_lit 81)) ⟨[]⟩ ⟨[]⟩)
def q117 : OpdF := kC (.func (.func (nat_lit 82)) ⟨[]⟩ ⟨[]⟩)
def q118 : OpdF := kC (.func (.func (nat_lit 83)) ⟨[]⟩ ⟨[]⟩)
def q119 : List Value := [(.int .i64 (.ofNat (nat_lit 0))), (.int .u8 (.ofNat (nat_lit 0))), (.int .u8 (.ofNat (nat_lit 0))), (.int .u8 (.ofNat (nat_lit 0))), (.int .u8 (.ofNat (nat_lit 0))), (.int .u8 (.ofNat (nat_lit 0))), (.int .u8 (.ofNat (nat_lit 0))), (.int .u8 (.ofNat (nat_lit 0))), (.int .u8 (.ofNat (nat_lit 0))), (.int .u8 (.ofNat (nat_lit 0))), (.int .u8 (.ofNat (nat_lit 0))), (.int .u8 (.ofNat (nat_lit 0))), (.int .u8 (.ofNat (nat_lit 0))), (.int .u8 (.ofNat (nat_lit 0))), (.int .u8 (.ofNat (nat_lit 0))), (.int .u8 (.ofNat (nat_lit 0))), (.int .u8 (.ofNat (nat_lit 0))), (.int .u8 (.ofNat (nat_lit 0))), (.int .u8 (.ofNat (nat_lit 0))), (.int .u8 (.ofNat (nat_lit 0))), (.int .u8 (.ofNat (nat_lit 0))), (.int .u8 (.ofNat (nat_lit 0))), (.int .u8 (.ofNat (nat_lit 0))), (.int .u8 (.ofNat (nat_lit 0))), (.int .u8 (.ofNat (nat_lit 0))), (.int .u8 (.ofNat (nat_lit 0))), (.int .u8 (.ofNat (nat_lit 0))), (.int .u8 (.ofNat (nat_lit 0))), (.int .u8 (.ofNat (nat_lit 0))), (.int .u8 (.ofNat (nat_lit 0))), (.int .u8 (.ofNat (nat_lit 0))), (.int .u8 (.ofNat (nat_lit 0))), (.int .u8 (.ofNat (nat_lit 0)))]
def q120 : OpdF := kC (.func (.func (nat_lit 84)) ⟨[]⟩ ⟨[]⟩)
noncomputable def k34 : KFun := ⟨[], (kSeq (oSet (xMove g1) p16 
(oSet (xMove g2) p17 
(oSet (xLook (lkLen .sl g17)) p18 
(oSet (xLook (lkBuild q30 [((nat_lit 0), (nat_lit 1), g16), ((nat_lit 65), (nat_lit 1), g18)])) p19 
(oSet (xTurn (tnAlloc q30)) p8 
(oDo (xTurn (tnStore (nat_lit 67) g8 g19)) 
oEnd)))))) (kSeq (oSet (xMove q8) p9 
oEnd) (kSeq (kDraw 
(dLook (nat_lit 0) [] [] (lkMove g0) p21 
(dTurn (nat_lit 1) [] [] false (xNil g21) p22 
(dLook (nat_lit 2) [] [] (lkFieldAddr (nat_lit 0) g22) p23 
(dLook (nat_lit 3) [] [] (lkFieldAddr (nat_lit 0) g23) p24 
(dLook (nat_lit 4) [] [] (lkLoad1 g24) p25 
(dLook (nat_lit 5) [] [] (lkMove g2) p26 
(dTurn (nat_lit 6) [(nat_lit 4)] [] true (xCall q114 [g26]) p27 
(dTurn (nat_lit 7) [] [(nat_lit 6)] true (xCall q113 [g25, g27]) p28 
(dLook (nat_lit 8) [] [(nat_lit 6), (nat_lit 7)] (lkMove g28) p20 
(dLook (nat_lit 9) [] [(nat_lit 6), (nat_lit 7)] (lkExtract (nat_lit 0) g20) p29 
(dLook (nat_lit 10) [] [(nat_lit 6), (nat_lit 7)] (lkExtract (nat_lit 1) g20) p30 
(dLook (nat_lit 11) [] [(nat_lit 6), (nat_lit 7)] (lkFieldAddr (nat_lit 1) g8) p31 
(dTurn (nat_lit 12) [] [(nat_lit 6), (nat_lit 7)] true (xTurn (tnStore (nat_lit 32) g31 g29)) noDst 
(dLook (nat_lit 13) [] [(nat_lit 6), (nat_lit 7), (nat_lit 12)] (lkMove g30) p9 (dEnd [(nat_lit 21), (nat_lit 22), (nat_lit 23), (nat_lit 24), (nat_lit 25), (nat_lit 26), (nat_lit 27), (nat_lit 28), (nat_lit 20), (nat_lit 29), (nat_lit 30), (nat_lit 31), (nat_lit 9)])))))))))))))))) (kSeq (oSet (xMove g9) p32 
(oSet (xCall q110 [g32]) p33 
oEnd)) (kSeq (oSet (xMove g0) p35 
(oSet (xNil g35) p36 
(oSet (xLook (lkFieldAddr (nat_lit 0) g36)) p37 
(oSet (xLook (lkFieldAddr (nat_lit 0) g37)) p38 
(oSet (xLook (lkLoad1 g38)) p39 
(oSet (xMove g3) p40 
(oSet (xCall q115 [g39, g40]) p41 
(oSet (xMove g41) p34 
(oSet (xLook (lkExtract (nat_lit 0) g34)) p42 
(oSet (xLook (lkExtract (nat_lit 1) g34)) p43 
(oSet (xLook (lkFieldAddr (nat_lit 33) g8)) p44 
(oDo (xTurn (tnStore (nat_lit 32) g44 g42)) 
(oSet (xMove g43) p9 
oEnd))))))))))))) (kSeq (oSet (xMove g9) p45 
(oSet (xCall q110 [g45]) p46 
oEnd)) (kSeq (kSeq (oSet (xMove g2) p47 
(oSet (xLook (lkLen .sl g47)) p48 
(oSet (xCall q116 [g48]) p49 
(oSet (xLook (lkLen .sl g49)) p50 
(oSet (xMove q8) p51 
oEnd))))) (kBlock (nat_lit 0) (kLoop (kSeq (oSet (xLook (lkBin .lss g51 g50)) p52 
oEnd) (kSeq (kCond g52 kSkip (kExit (nat_lit 0))) (kSeq (kBlock (nat_lit 1) (kSeq (oSet (xLook (lkIxSl (nat_lit 1) g49 g51)) p53 
(oSet (xLook (lkLoad1 g53)) p54 
(oSet (xMove g54) p11 
oEnd))) (kSeq (oSet (xMove g3) p56 
(oSet (xMove g11) p57 
(oSet (xCall q117 [g56, g57]) p58 
(oSet (xMove g58) p55 
(oSet (xLook (lkExtract (nat_lit 0) g55)) p59 
(oSet (xLook (lkExtract (nat_lit 1) g55)) p60 
(oSet (xMove g59) p12 
(oSet (xMove g60) p13 
oEnd)))))))) (kSeq (oSet (xMove g13) p61 
(oSet (xCall q110 [g61]) p62 
oEnd)) (kSeq (oSet (xMove g0) p64 
(oSet (xNil g64) p65 
(oSet (xLook (lkFieldAddr (nat_lit 0) g65)) p66 
(oSet (xLook (lkFieldAddr (nat_lit 0) g66)) p67 
(oSet (xLook (lkLoad1 g67)) p68 
(oSet (xMove g12) p69 
(oSet (xCall q118 [g68, g69]) p70 
(oSet (xMove g70) p63 
(oSet (xLook (lkExtract (nat_lit 0) g63)) p71 
(oSet (xLook (lkExtract (nat_lit 1) g63)) p72 
(oSet (xTurn (tnAlloc q66)) p14 
(oDo (xTurn (tnStore (nat_lit 32) g14 g71)) 
(oSet (xMove g72) p13 
oEnd))))))))))))) (kSeq (oSet (xMove g13) p73 
(oSet (xCall q110 [g73]) p74 
oEnd)) (oSet (xLook (lkFieldAddr (nat_lit 66) g8)) p75 
(oSet (xLook (lkLoad1 g75)) p76 
(oSet (xMove g11) p77 
(oSet (xLook (lkLoadN (nat_lit 32) g14)) p78 
(oSet (xLook (lkBuild q119 [((nat_lit 0), (nat_lit 1), g77), ((nat_lit 1), (nat_lit 32), g78)])) p79 
(oSet (xTurn (tnBuildSlice q119 [((nat_lit 0), (nat_lit 33), g79)] (nat_lit 1))) p80 
(oSet (xTurn (tnAppend (nat_lit 33) g76 g80)) p81 
(oSet (xLook (lkFieldAddr (nat_lit 66) g8)) p82 
(oDo (xTurn (tnStore (nat_lit 1) g82 g81)) 
oEnd))))))))))))))) (oSet (xLook (lkBin .add g51 q12)) p83 
(oSet (xMove g83) p51 
oEnd)))))))) (kSeq (kDraw 
(dLook (nat_lit 0) [] [] (lkMove g0) p85 
(dTurn (nat_lit 1) [] [] false (xNil g85) p86 
(dLook (nat_lit 2) [] [] (lkFieldAddr (nat_lit 1) g86) p87 
(dLook (nat_lit 3) [] [] (lkLoad1 g87) p88 
(dLook (nat_lit 4) [] [] (lkLoadN (nat_lit 67) g8) p89 
(dTurn (nat_lit 5) [] [] true (xCall q120 [g88, g89]) p90 
(dLook (nat_lit 6) [] [(nat_lit 5)] (lkMove g90) p84 
(dLook (nat_lit 7) [] [(nat_lit 5)] (lkExtract (nat_lit 0) g84) p91 
(dLook (nat_lit 8) [] [(nat_lit 5)] (lkExtract (nat_lit 1) g84) p92 
(dLook (nat_lit 9) [] [(nat_lit 5)] (lkMove g91) p15 
(dLook (nat_lit 10) [] [(nat_lit 5)] (lkMove g92) p9 (dEnd [(nat_lit 85), (nat_lit 86), (nat_lit 87), (nat_lit 88), (nat_lit 89), (nat_lit 90), (nat_lit 84), (nat_lit 91), (nat_lit 92), (nat_lit 15), (nat_lit 9)]))))))))))))) (kSeq (oSet (xMove g9) p93 
(oSet (xCall q110 [g93]) p94 
oEnd)) (oSet (xMove g0) p95 
(oSet (xMove g15) p96 
(oSet (xNil g95) p97 
(oSet (xLook (lkFieldAddr (nat_lit 1) g97)) p98 
(oDo (xTurn (tnStore (nat_lit 1) g98 g96)) 
oEnd))))))))))))))⟩
noncomputable def k35 : KFun := ⟨[rTmp (nat_lit 4) g4], (kSeq (oSet (xMove q0) p4 
oEnd) (kSeq (kSeq (oSet (xMove g0) p6 
(oSet (xLook (lkLen .sl g6)) p7 
(oSet (xMove g1) p8 
(oSet (xLook (lkLen .sl g8)) p9 
(oSet (xLook (lkEq true .int g7 g9)) p10 
oEnd))))) (kCond g10 (kSeq (oSet (xMove q0) p4 
oEnd) kRet) kSkip)) (kSeq (kSeq (oSet (xMove q8) p5 
oEnd) (kBlock (nat_lit 0) (kLoop (kSeq (kSeq (oSet (xMove g5) p11 
(oSet (xMove g0) p12 
(oSet (xLook (lkLen .sl g12)) p13 
(oSet (xLook (lkBin .lss g11 g13)) p14 
oEnd)))) (kCond g14 kSkip (kExit (nat_lit 0)))) (kSeq (kBlock (nat_lit 1) (kSeq (kDraw 
(dLook (nat_lit 0) [] [] (lkMove g0) p17 
(dLook (nat_lit 1) [] [] (lkMove g5) p18 
(dLook (nat_lit 2) [] [] (lkIxSl (nat_lit 1) g17 g18) p19 
(dLook (nat_lit 3) [] [] (lkLoad1 g19) p20 
(dLook (nat_lit 4) [] [] (lkMove g1) p21 
(dLook (nat_lit 5) [] [] (lkMove g5) p22 
(dLook (nat_lit 6) [] [] (lkIxSl (nat_lit 1) g21 g22) p23 
(dLook (nat_lit 7) [] [] (lkLoad1 g23) p24 
(dLook (nat_lit 8) [] [] (lkEq true .str g20 g24) p25 (dEnd [(nat_lit 17), (nat_lit 18), (nat_lit 19), (nat_lit 20), (nat_lit 21), (nat_lit 22), (nat_lit 23), (nat_lit 24), (nat_lit 25)]))))))))))) (kCond g25 (kSeq (oSet (xMove q0) p4 
oEnd) kRet) kSkip))) (oSet (xMove g5) p15 
(oSet (xLook (lkBin .add g15 q12)) p16 
(oSet (xMove g16) p5 
oEnd)))))))) (kSeq (oSet (xMove q3) p4 
oEnd) kRet))))⟩
def q121 : OpdF := kC (.func (.func (nat_lit 85)) ⟨[]⟩ ⟨[]⟩)
noncomputable def k36 : KFun := ⟨[rTmp (nat_lit 2) g2], (kSeq (oSet (xMove q23) p2 
oEnd) (kSeq (oSet (xMove g0) p3 
(oSet (xCall q121 [q23, g3]) p4 
(oSet (xMove g4) p2 
oEnd))) kRet))⟩
def q122 : OpdF := kC (.func (.func (nat_lit 87)) ⟨[]⟩ ⟨[]⟩)
def q123 : OpdF := kC (.func (.func (nat_lit 86)) ⟨[]⟩ ⟨[]⟩)
noncomputable def k37 : KFun := ⟨[], (kSeq (oSet (xMove g0) p3 
(oSet (xLook (lkLen .sl g3)) p4 
(oSet (xMove g4) p2 
oEnd))) (oSet (xMove g0) p5 
(oSet (xMove g2) p6 
(oSet (xMove g2) p7 
(oSet (xLook (lkIntTo .u64 g7)) p8 
(oSet (xCall q122 [g8]) p9 
(oSet (xCall q123 [g5, q8, g6, g9]) p10 
oEnd)))))))⟩
noncomputable def k38 : KFun := ⟨[], (kSeq (oSet (xLook (lkLoad1 g1)) p5 
(oSet (xLook (lkLen .sl g5)) p6 
(oSet (xMove q8) p7 
oEnd))) (kBlock (nat_lit 0) (kLoop (kSeq (oSet (xLook (lkBin .lss g7 g6)) p8 
oEnd) (kSeq (kCond g8 kSkip (kExit (nat_lit 0))) (kSeq (kBlock (nat_lit 1) (kSeq (oSet (xLook (lkIxSl (nat_lit 1) g5 g7)) p9 
(oSet (xLook (lkLoad1 g9)) p10 
(oSet (xMove g10) p4 
oEnd))) (kSeq (oSet (xMove g0) p11 
(oSet (xMove g4) p12 
(oSet (xCall g11 [g12]) p13 
(oSet (xLook (lkUn .not g13)) p14 
oEnd)))) (kCond g14 kRet kSkip)))) (oSet (xLook (lkBin .add g7 q12)) p15 
(oSet (xMove g15) p7 
oEnd))))))))⟩
def q124 : OpdF := kC (.func (.func (nat_lit 88)) ⟨[]⟩ ⟨[]⟩)
def q125 : OpdF := kC (.func (.func (nat_lit 89)) ⟨[]⟩ ⟨[]⟩)
def q126 : OpdF := kC (.func (.func (nat_lit 90)) ⟨[]⟩ ⟨[]⟩)
noncomputable def k39 : KFun := ⟨[rCellN (nat_lit 4) g4 (nat_lit 67), rTmp (nat_lit 5) g5], (kSeq (oSet (xTurn (tnAlloc q30)) p4 
(oSet (xMove q0) p5 
oEnd)) (kSeq (kSeq (oSet (xMove g0) p11 
(oSet (xCall q124 [g11]) p12 
(oSet (xMove g12) p10 
(oSet (xLook (lkExtract (nat_lit 0) g10)) p13 
(oSet (xLook (lkExtract (nat_lit 1) g10)) p14 
(oSet (xMove g13) p6 
(oSet (xMove g14) p7 
oEnd))))))) (kSeq (oSet (xMove g6) p15 
(oSet (xLook (lkEq true .int g15 q8)) p16 
oEnd)) (kCond g16 (kSeq (oSet (xLook (lkBuild q30 [])) p17 
(oDo (xTurn (tnStore (nat_lit 67) g4 g17)) 
(oSet (xMove q0) p5 
oEnd))) kRet) kSkip))) (kSeq (oSet (xMove g0) p19 
(oSet (xMove g1) p20 
(oSet (xCall q125 [g19, g20]) p21 
(oSet (xMove g21) p18 
(oSet (xLook (lkExtract (nat_lit 0) g18)) p22 
(oSet (xLook (lkExtract (nat_lit 1) g18)) p23 
(oSet (xMove g22) p8 
(oSet (xMove g23) p9 
oEnd)))))))) (kSeq (kSeq (oSet (xMove g9) p24 
(oSet (xLook (lkUn .not g24)) p25 
oEnd)) (kCond g25 (kSeq (oSet (xLook (lkBuild q30 [])) p26 
(oDo (xTurn (tnStore (nat_lit 67) g4 g26)) 
(oSet (xMove q0) p5 
oEnd))) kRet) kSkip)) (kSeq (oSet (xMove g0) p27 
(oSet (xMove g8) p28 
(oSet (xLook (lkIxSl (nat_lit 67) g27 g28)) p29 
(oSet (xLook (lkLoadN (nat_lit 67) g29)) p30 
(oSet (xCall q126 [g30]) p31 
(oDo (xTurn (tnStore (nat_lit 67) g4 g31)) 
(oSet (xMove q3) p5 
oEnd))))))) kRet)))))⟩
def q127 : OpdF := kC (.func (.func (nat_lit 41)) ⟨[]⟩ ⟨[]⟩)
def q128 : OpdF := kC (.func (.func (nat_lit 42)) ⟨[]⟩ ⟨[]⟩)
noncomputable def k40 : KFun := ⟨[], (kDraw 
(dLook (nat_lit 0) [] [] (lkLoad1 g0) p3 
(dTurn (nat_lit 1) [] [] false (xNil g3) p4 
(dLook (nat_lit 2) [] [] (lkFieldAddr (nat_lit 0) g4) p5 
(dLook (nat_lit 3) [] [] (lkLoadN (nat_lit 1) g5) p6 
(dLook (nat_lit 4) [] [] (lkLoad1 g0) p7 
(dLook (nat_lit 5) [] [] (lkLoad1 g1) p8 
(dTurn (nat_lit 6) [(nat_lit 0), (nat_lit 3)] [] true (xCall q128 [g7, g8]) p9 
(dTurn (nat_lit 7) [] [(nat_lit 6)] true (xCall q127 [g6, g9]) p10 
(dTurn (nat_lit 8) [] [(nat_lit 6), (nat_lit 7)] true (xTurn (tnStore (nat_lit 1) g2 g10)) noDst (dEnd [(nat_lit 3), (nat_lit 4), (nat_lit 5), (nat_lit 6), (nat_lit 7), (nat_lit 8), (nat_lit 9), (nat_lit 10)])))))))))))⟩
def q129 : OpdF := kC (.func (.func (nat_lit 91)) ⟨[]⟩ ⟨[]⟩)
def q130 : OpdF := kC (.func (.func (nat_lit 92)) ⟨[]⟩ ⟨[]⟩)
noncomputable def k41 : KFun := ⟨[rTmp (nat_lit 4) g4], (kSeq (oSet (xTurn (tnBox g0)) p2 
(oSet (xTurn (tnBox g1)) p3 
(oSet (xMove q23) p4 
oEnd))) (kSeq (oSet (xLook (lkFieldAddr (nat_lit 0) g2)) p13 
(oSet (xLook (lkLoad1 g13)) p14 
(oSet (xLook (lkFieldAddr (nat_lit 1) g3)) p15 
(oSet (xLook (lkLoadN (nat_lit 32) g15)) p16 
(oSet (xCall q129 [g14, g16]) p17 
(oSet (xMove g17) p12 
(oSet (xLook (lkExtract (nat_lit 0) g12)) p18 
(oSet (xLook (lkExtract (nat_lit 1) g12)) p19 
(oSet (xMove g18) p5 
(oSet (xMove g19) p6 
oEnd)))))))))) (kSeq (oSet (xMove g6) p20 
(oSet (xCall q110 [g20]) p21 
oEnd)) (kSeq (oSet (xMove q23) p7 
oEnd) (kSeq (kSeq (oSet (xMove g5) p22 
(oSet (xLook (lkLen .sl g22)) p23 
(oSet (xMove q8) p24 
oEnd))) (kBlock (nat_lit 0) (kLoop (kSeq (oSet (xLook (lkBin .lss g24 g23)) p25 
oEnd) (kSeq (kCond g25 kSkip (kExit (nat_lit 0))) (kSeq (kBlock (nat_lit 1) (kSeq (oSet (xLook (lkIxSl (nat_lit 1) g22 g24)) p26 
(oSet (xLook (lkLoad1 g26)) p27 
(oSet (xMove g27) p9 
oEnd))) (kSeq (oSet (xMove g9) p29 
(oSet (xTurn (tnToBytes g29)) p30 
(oSet (xCall q130 [g30]) p31 
(oSet (xMove g31) p28 
(oSet (xLook (lkExtract (nat_lit 0) g28)) p32 
(oSet (xLook (lkExtract (nat_lit 1) g28)) p33 
(oSet (xTurn (tnAlloc q35)) p11 
(oSet (xMove g32) p10 
(oDo (xTurn (tnStore (nat_lit 2) g11 g33)) 
oEnd))))))))) (kSeq (kSeq (oSet (xLook (lkFieldAddr (nat_lit 0) g11)) p34 
(oSet (xLook (lkLoad1 g34)) p35 
(oSet (xLook (lkEq true .int g35 q8)) p36 
oEnd))) (kCond g36 (oSet (xCall q110 [q73]) p37 
oEnd) kSkip)) (oSet (xMove g7) p38 
(oSet (xMove g10) p39 
(oSet (xTurn (tnBuildSlice q14 [((nat_lit 0), (nat_lit 1), g39)] (nat_lit 1))) p40 
(oSet (xTurn (tnAppend (nat_lit 1) g38 g40)) p41 
(oSet (xMove g41) p7 
oEnd))))))))) (oSet (xLook (lkBin .add g24 q12)) p42 
(oSet (xMove g42) p24 
oEnd)))))))) (kSeq (kSeq (oSet (xMove g7) p43 
(oSet (xLook (lkLen .sl g43)) p44 
(oSet (xLook (lkFieldAddr (nat_lit 65) g3)) p45 
(oSet (xLook (lkLoad1 g45)) p46 
(oSet (xLook (lkEq true .int g44 g46)) p47 
oEnd))))) (kCond g47 (oSet (xCall q110 [q73]) p48 
oEnd) kSkip)) (kSeq (oSet (xMove g7) p49 
(oSet (xMove g49) p4 
oEnd)) kRet)))))))⟩
noncomputable def k42 : KFun := ⟨[rCellN (nat_lit 4) g4 (nat_lit 67)], (kSeq (oSet (xTurn (tnAlloc q30)) p4 
oEnd) (kSeq (oSet (xMove g0) p8 
(oSet (xMove g1) p9 
(oSet (xCall q29 [g8, g9]) p10 
(oSet (xMove g10) p7 
(oSet (xLook (lkExtract (nat_lit 0) g7)) p11 
(oSet (xLook (lkExtract (nat_lit 1) g7)) p12 
(oSet (xTurn (tnAlloc q30)) p5 
(oDo (xTurn (tnStore (nat_lit 67) g5 g11)) 
(oSet (xMove g12) p6 
oEnd))))))))) (kSeq (kSeq (oSet (xMove g6) p13 
(oSet (xLook (lkUn .not g13)) p14 
oEnd)) (kCond g14 (oSet (xCall q110 [q20]) p15 
oEnd) kSkip)) (kSeq (oSet (xLook (lkLoadN (nat_lit 67) g5)) p16 
(oDo (xTurn (tnStore (nat_lit 67) g4 g16)) 
oEnd)) kRet))))⟩
noncomputable def k43d0 : KD := 
(dLook (nat_lit 18) [] [(nat_lit 2)] (lkPick g24 q3 g37) p38 (dEnd [(nat_lit 20), (nat_lit 21), (nat_lit 22), (nat_lit 23), (nat_lit 24), (nat_lit 25), (nat_lit 26), (nat_lit 27), (nat_lit 28), (nat_lit 29), (nat_lit 30), (nat_lit 31), (nat_lit 32), (nat_lit 33), (nat_lit 34), (nat_lit 35), (nat_lit 36), (nat_lit 37), (nat_lit 38)]))
noncomputable def k43d1 : KD := 
(dIf [(nat_lit 2)] (wantF g24) p37 (dLook (nat_lit 17) [] [(nat_lit 2)] (lkPick g27 g36 q0) p37 k43d0) k43d0)
noncomputable def k43d2 : KD := 
(dIf [(nat_lit 2)] (wantT g27) p36 (dLook (nat_lit 16) [] [(nat_lit 2)] (lkBin .geq g33 g35) p36 k43d1) k43d1)
noncomputable def k43d3 : KD := 
(dIf [(nat_lit 2)] (wantT g27) p35 (dLook (nat_lit 15) [] [(nat_lit 2)] (lkLoad1 g34) p35 k43d2) k43d2)
noncomputable def k43d4 : KD := 
(dIf [(nat_lit 2)] (wantT g27) p34 (dLook (nat_lit 14) [] [(nat_lit 2)] (lkFieldAddr (nat_lit 0) g5) p34 k43d3) k43d3)
noncomputable def k43d5 : KD := 
(dIf [(nat_lit 2)] (wantT g27) p33 (dLook (nat_lit 13) [] [(nat_lit 2)] (lkLoad1 g32) p33 k43d4) k43d4)
noncomputable def k43d6 : KD := 
(dIf [(nat_lit 2)] (wantT g27) p32 (dLook (nat_lit 12) [] [(nat_lit 2)] (lkFieldAddr (nat_lit 0) g31) p32 k43d5) k43d5)
noncomputable def k43d7 : KD := 
(dIf [(nat_lit 2)] (wantT g27) p31 (dLook (nat_lit 11) [] [(nat_lit 2)] (lkIxSl (nat_lit 2) g28 g30) p31 k43d6) k43d6)
noncomputable def k43d8 : KD := 
(dIf [(nat_lit 2)] (wantT g27) p30 (dLook (nat_lit 10) [] [(nat_lit 2)] (lkBin .sub g29 q12) p30 k43d7) k43d7)
noncomputable def k43d9 : KD := 
(dIf [(nat_lit 2)] (wantT g27) p29 (dLook (nat_lit 9) [] [(nat_lit 2)] (lkMove g4) p29 k43d8) k43d8)
noncomputable def k43d10 : KD := 
(dIf [(nat_lit 2)] (wantT g27) p28 (dLook (nat_lit 8) [] [(nat_lit 2)] (lkMove g0) p28 k43d9) k43d9)
noncomputable def k43d11 : KD := 
(dIf [(nat_lit 2)] (wantF g24) p27 (dLook (nat_lit 7) [] [(nat_lit 2)] (lkMove g26) p27 k43d10) k43d10)
noncomputable def k43d12 : KD := 
(dIf [(nat_lit 2)] (wantF g24) p26 (dLook (nat_lit 6) [] [(nat_lit 2)] (lkBin .gtr g25 q8) p26 k43d11) k43d11)
def q131 : OpdF := kC (.int .i64 (.ofNat (nat_lit 500)))
def q132 : OpdF := kC (.func (.func (nat_lit 93)) ⟨[]⟩ ⟨[]⟩)
noncomputable def k43 : KFun := ⟨[rTmp (nat_lit 2) g2, rTmp (nat_lit 3) g3], (kSeq (oSet (xMove q8) p2 
(oSet (xMove q8) p3 
oEnd)) (kSeq (kSeq (oSet (xMove g0) p10 
(oSet (xLook (lkLen .sl g10)) p11 
(oSet (xLook (lkBin .gtr g11 q40)) p12 
oEnd))) (kCond g12 (kSeq (oSet (xMove q68) p2 
(oSet (xMove q40) p3 
oEnd)) kRet) kSkip)) (kSeq (kSeq (oSet (xMove g0) p13 
(oSet (xLook (lkLen .sl g13)) p14 
(oSet (xMove q8) p15 
oEnd))) (kBlock (nat_lit 0) (kLoop (kSeq (oSet (xLook (lkBin .lss g15 g14)) p16 
oEnd) (kSeq (kCond g16 kSkip (kExit (nat_lit 0))) (kSeq (kBlock (nat_lit 1) (kSeq (oSet (xMove g15) p17 
(oSet (xLook (lkIxSl (nat_lit 2) g13 g15)) p18 
(oSet (xLook (lkLoadN (nat_lit 2) g18)) p19 
(oSet (xTurn (tnAlloc q32)) p5 
(oSet (xMove g17) p4 
(oDo (xTurn (tnStore (nat_lit 2) g5 g19)) 
oEnd)))))) (kSeq (kSeq (kDraw 
(dLook (nat_lit 0) [] [] (lkFieldAddr (nat_lit 0) g5) p20 
(dLook (nat_lit 1) [] [] (lkLoad1 g20) p21 
(dTurn (nat_lit 2) [] [] true (xCall q48 [g21]) p22 
(dLook (nat_lit 3) [] [(nat_lit 2)] (lkUn .not g22) p23 
(dLook (nat_lit 4) [] [(nat_lit 2)] (lkMove g23) p24 
(dIf [(nat_lit 2)] (wantF g24) p25 (dLook (nat_lit 5) [] [(nat_lit 2)] (lkMove g4) p25 k43d12) k43d12))))))) (kCond g38 (kSeq (oSet (xMove g4) p39 
(oSet (xMove q9) p2 
(oSet (xMove g39) p3 
oEnd))) kRet) kSkip)) (kSeq (kSeq (oSet (xLook (lkFieldAddr (nat_lit 1) g5)) p40 
(oSet (xLook (lkLoad1 g40)) p41 
(oSet (xLook (lkLen .sl g41)) p42 
(oSet (xLook (lkBin .gtr g42 q131)) p43 
oEnd)))) (kCond g43 (kSeq (oSet (xMove g4) p44 
(oSet (xMove q68) p2 
(oSet (xMove g44) p3 
oEnd))) kRet) kSkip)) (kSeq (oSet (xLook (lkFieldAddr (nat_lit 1) g5)) p45 
(oSet (xLook (lkLoad1 g45)) p46 
(oSet (xLook (lkLen .sl g46)) p47 
(oSet (xMove q8) p48 
oEnd)))) (kBlock (nat_lit 2) (kLoop (kSeq (oSet (xLook (lkBin .lss g48 g47)) p49 
oEnd) (kSeq (kCond g49 kSkip (kExit (nat_lit 2))) (kSeq (kBlock (nat_lit 3) (kSeq (oSet (xLook (lkIxSl (nat_lit 1) g46 g48)) p50 
(oSet (xLook (lkLoad1 g50)) p51 
(oSet (xMove g51) p7 
oEnd))) (kSeq (oSet (xMove g7) p53 
(oSet (xCall q132 [g53]) p54 
(oSet (xMove g54) p52 
(oSet (xLook (lkExtract (nat_lit 0) g52)) p55 
(oSet (xLook (lkExtract (nat_lit 1) g52)) p56 
(oSet (xMove g55) p8 
(oSet (xMove g56) p9 
oEnd))))))) (kSeq (oSet (xMove g8) p57 
(oSet (xLook (lkEq true .int g57 q8)) p58 
oEnd)) (kCond g58 (kSeq (oSet (xMove g8) p59 
(oSet (xMove g4) p60 
(oSet (xMove g59) p2 
(oSet (xMove g60) p3 
oEnd)))) kRet) kSkip))))) (oSet (xLook (lkBin .add g48 q12)) p61 
(oSet (xMove g61) p48 
oEnd)))))))))))) (oSet (xLook (lkBin .add g15 q12)) p62 
(oSet (xMove g62) p15 
oEnd)))))))) (kSeq (oSet (xMove q8) p2 
(oSet (xMove q8) p3 
oEnd)) kRet))))⟩
def q133 : OpdF := kC (.func (.func (nat_lit 50)) ⟨[]⟩ ⟨[]⟩)
def q134 : OpdF := kC (.func (.func (nat_lit 94)) ⟨[]⟩ ⟨[]⟩)
noncomputable def k44 : KFun := ⟨[rTmp (nat_lit 2) g2, rTmp (nat_lit 3) g3], (kSeq (oSet (xMove q23) p2 
(oSet (xMove q77) p3 
oEnd)) (kSeq (oSet (xTurn (tnMkMap (.one .str))) p14 
(oSet (xMove g14) p4 
oEnd)) (kSeq (kSeq (oSet (xMove g0) p15 
(oSet (xLook (lkLen .sl g15)) p16 
(oSet (xMove q8) p17 
oEnd))) (kBlock (nat_lit 0) (kLoop (kSeq (oSet (xLook (lkBin .lss g17 g16)) p18 
oEnd) (kSeq (kCond g18 kSkip (kExit (nat_lit 0))) (kSeq (kBlock (nat_lit 1) (kSeq (oSet (xLook (lkIxSl (nat_lit 2) g15 g17)) p19 
(oSet (xLook (lkLoadN (nat_lit 2) g19)) p20 
(oSet (xTurn (tnAlloc q32)) p6 
(oDo (xTurn (tnStore (nat_lit 2) g6 g20)) 
oEnd)))) (kSeq (oSet (xLook (lkFieldAddr (nat_lit 1) g6)) p21 
(oSet (xLook (lkLoad1 g21)) p22 
(oSet (xLook (lkLen .sl g22)) p23 
(oSet (xMove q8) p24 
oEnd)))) (kBlock (nat_lit 2) (kLoop (kSeq (oSet (xLook (lkBin .lss g24 g23)) p25 
oEnd) (kSeq (kCond g25 kSkip (kExit (nat_lit 2))) (kSeq (kBlock (nat_lit 3) (kSeq (oSet (xLook (lkIxSl (nat_lit 1) g22 g24)) p26 
(oSet (xLook (lkLoad1 g26)) p27 
(oSet (xMove g27) p8 
oEnd))) (kSeq (oSet (xMove g8) p29 
(oSet (xCall q133 [g29]) p30 
(oSet (xMove g30) p28 
(oSet (xLook (lkExtract (nat_lit 0) g28)) p31 
(oSet (xLook (lkExtract (nat_lit 1) g28)) p32 
(oSet (xMove g31) p9 
(oSet (xMove g32) p10 
oEnd))))))) (oSet (xMove g4) p33 
(oSet (xMove g9) p34 
(oSet (xLook (lkBytesTo g34)) p35 
(oDo (xTurn (tnMapUpdate (.one .str) g33 g35 q8)) 
oEnd))))))) (oSet (xLook (lkBin .add g24 q12)) p36 
(oSet (xMove g36) p24 
oEnd)))))))))) (oSet (xLook (lkBin .add g17 q12)) p37 
(oSet (xMove g37) p17 
oEnd)))))))) (kSeq (oSet (xMove g4) p38 
(oSet (xCall q134 [g38]) p39 
(oSet (xCall q27 [g39]) p40 
(oSet (xMove g40) p11 
oEnd)))) (kSeq (kSeq (oSet (xMove g11) p41 
(oSet (xLook (lkLen .sl g41)) p42 
(oSet (xMove q8) p43 
oEnd))) (kBlock (nat_lit 4) (kLoop (kSeq (oSet (xLook (lkBin .lss g43 g42)) p44 
oEnd) (kSeq (kCond g44 kSkip (kExit (nat_lit 4))) (kSeq (kBlock (nat_lit 5) (kSeq (oSet (xMove g43) p45 
(oSet (xLook (lkIxSl (nat_lit 1) g41 g43)) p46 
(oSet (xLook (lkLoad1 g46)) p47 
(oSet (xMove g45) p12 
(oSet (xMove g47) p13 
oEnd))))) (oSet (xMove g4) p48 
(oSet (xMove g13) p49 
(oSet (xMove g12) p50 
(oDo (xTurn (tnMapUpdate (.one .str) g48 g49 g50)) 
oEnd)))))) (oSet (xLook (lkBin .add g43 q12)) p51 
(oSet (xMove g51) p43 
oEnd)))))))) (kSeq (oSet (xMove g11) p52 
(oSet (xMove g4) p53 
(oSet (xMove g52) p2 
(oSet (xMove g53) p3 
oEnd)))) kRet))))))⟩
def q135 : OpdF := kC (.func (.func (nat_lit 95)) ⟨[]⟩ ⟨[]⟩)
def q136 : OpdF := kC (.func (.func (nat_lit 96)) ⟨[]⟩ ⟨[]⟩)
noncomputable def k45 : KFun := ⟨[rTmp (nat_lit 2) g2], (kSeq (oSet (xMove q23) p2 
oEnd) (kSeq (oSet (xCall q135 []) p8 
(oSet (xMove g8) p3 
oEnd)) (kSeq (kSeq (oSet (xMove g0) p9 
(oSet (xLook (lkLen .sl g9)) p10 
(oSet (xMove q8) p11 
oEnd))) (kBlock (nat_lit 0) (kLoop (kSeq (oSet (xLook (lkBin .lss g11 g10)) p12 
oEnd) (kSeq (kCond g12 kSkip (kExit (nat_lit 0))) (kSeq (kBlock (nat_lit 1) (kSeq (oSet (xLook (lkIxSl (nat_lit 1) g9 g11)) p13 
(oSet (xLook (lkLoad1 g13)) p14 
(oSet (xMove g14) p5 
oEnd))) (oSet (xMove g5) p15 
(oSet (xMove g3) p16 
(oSet (xCall g15 [g16]) p17 
oEnd))))) (oSet (xLook (lkBin .add g11 q12)) p18 
(oSet (xMove g18) p11 
oEnd)))))))) (kSeq (oSet (xMove g3) p20 
(oSet (xCall q136 [g20]) p21 
(oSet (xMove g21) p19 
(oSet (xLook (lkExtract (nat_lit 0) g19)) p22 
(oSet (xLook (lkExtract (nat_lit 1) g19)) p23 
(oSet (xMove g22) p6 
(oSet (xMove g23) p7 
oEnd))))))) (kSeq (oSet (xMove g6) p24 
(oSet (xMove g24) p2 
oEnd)) kRet)))))⟩
def q137 : OpdF := kC (.func (.func (nat_lit 47)) ⟨[]⟩ ⟨[]⟩)
def q138 : OpdF := kC (.func (.func (nat_lit 48)) ⟨[]⟩ ⟨[]⟩)
noncomputable def k46 : KFun := ⟨[], (kSeq (oSet (xMove g0) p5 
(oSet (xLook (lkLoad1 g1)) p6 
(oSet (xLook (lkLen .sl g6)) p7 
(oSet (xCall q137 [g5, g7]) p8 
oEnd)))) (kSeq (oSet (xLook (lkLoad1 g1)) p9 
(oSet (xLook (lkLen .sl g9)) p10 
(oSet (xMove q8) p11 
oEnd))) (kBlock (nat_lit 0) (kLoop (kSeq (oSet (xLook (lkBin .lss g11 g10)) p12 
oEnd) (kSeq (kCond g12 kSkip (kExit (nat_lit 0))) (kSeq (kBlock (nat_lit 1) (kSeq (oSet (xLook (lkIxSl (nat_lit 1) g9 g11)) p13 
(oSet (xLook (lkLoad1 g13)) p14 
(oSet (xMove g14) p4 
oEnd))) (oSet (xMove g0) p15 
(oSet (xMove g4) p16 
(oSet (xCall q138 [g15, g16]) p17 
oEnd))))) (oSet (xLook (lkBin .add g11 q12)) p18 
(oSet (xMove g18) p11 
oEnd)))))))))⟩
def q139 : OpdF := kC (.func (.func (nat_lit 97)) ⟨[]⟩ ⟨[]⟩)
def q140 : OpdF := kC (.int .i64 (.ofNat (nat_lit 127)))
def q141 : OpdF := kC (.int .i64 (.ofNat (nat_lit 128)))
def q142 : List Value := [(.int .u8 (.ofNat (nat_lit 0)))]
def q143 : OpdF := kC (.int .u64 (.ofNat (nat_lit 7)))
noncomputable def k47 : KFun := ⟨[], (kSeq (kSeq (oSet (xMove g0) p4 
(oSet (xCall q139 [g4]) p5 
oEnd)) (kCond g5 kRet kSkip)) (kSeq (kSeq (oSet (xMove g1) p6 
(oSet (xLook (lkBin .lss g6 q8)) p7 
oEnd)) (kCond g7 (kSeq (oSet (xMove g0) p8 
(oSet (xNil g8) p9 
(oSet (xLook (lkFieldAddr (nat_lit 0) g9)) p10 
(oSet (xLook (lkFieldAddr (nat_lit 2) g10)) p11 
(oSet (xLook (lkFieldAddr (nat_lit 0) g11)) p12 
(oDo (xTurn (tnStore (nat_lit 1) g12 q86)) 
oEnd)))))) kRet) kSkip)) (kSeq (kBlock (nat_lit 0) (kLoop (kSeq (kSeq (oSet (xMove g1) p13 
(oSet (xLook (lkBin .gtr g13 q140)) p14 
oEnd)) (kCond g14 kSkip (kExit (nat_lit 0)))) (kSeq (kBlock (nat_lit 1) (oSet (xMove g0) p17 
(oSet (xMove g0) p18 
(oSet (xNil g18) p19 
(oSet (xLook (lkFieldAddr (nat_lit 0) g19)) p20 
(oSet (xLook (lkFieldAddr (nat_lit 1) g20)) p21 
(oSet (xLook (lkLoad1 g21)) p22 
(oSet (xMove g1) p23 
(oSet (xLook (lkBin .and g23 q140)) p24 
(oSet (xLook (lkBin .or g24 q141)) p25 
(oSet (xLook (lkIntTo .u8 g25)) p26 
(oSet (xTurn (tnBuildSlice q142 [((nat_lit 0), (nat_lit 1), g26)] (nat_lit 1))) p27 
(oSet (xTurn (tnAppend (nat_lit 1) g22 g27)) p28 
(oSet (xNil g17) p29 
(oSet (xLook (lkFieldAddr (nat_lit 0) g29)) p30 
(oSet (xLook (lkFieldAddr (nat_lit 1) g30)) p31 
(oDo (xTurn (tnStore (nat_lit 1) g31 g28)) 
oEnd))))))))))))))))) (oSet (xMove g1) p15 
(oSet (xLook (lkBin .shr g15 q143)) p16 
(oSet (xMove g16) p1 
oEnd))))))) (oSet (xMove g0) p32 
(oSet (xMove g0) p33 
(oSet (xNil g33) p34 
(oSet (xLook (lkFieldAddr (nat_lit 0) g34)) p35 
(oSet (xLook (lkFieldAddr (nat_lit 1) g35)) p36 
(oSet (xLook (lkLoad1 g36)) p37 
(oSet (xMove g1) p38 
(oSet (xLook (lkIntTo .u8 g38)) p39 
(oSet (xTurn (tnBuildSlice q142 [((nat_lit 0), (nat_lit 1), g39)] (nat_lit 1))) p40 
(oSet (xTurn (tnAppend (nat_lit 1) g37 g40)) p41 
(oSet (xNil g32) p42 
(oSet (xLook (lkFieldAddr (nat_lit 0) g42)) p43 
(oSet (xLook (lkFieldAddr (nat_lit 1) g43)) p44 
(oDo (xTurn (tnStore (nat_lit 1) g44 g41)) 
oEnd)))))))))))))))))⟩
noncomputable def k48 : KFun := ⟨[], (kSeq (kSeq (oSet (xMove g0) p4 
(oSet (xCall q139 [g4]) p5 
oEnd)) (kCond g5 kRet kSkip)) (kSeq (oSet (xMove g0) p6 
(oSet (xMove g1) p7 
(oSet (xLook (lkLen .str g7)) p8 
(oSet (xCall q137 [g6, g8]) p9 
oEnd)))) (oSet (xMove g0) p10 
(oSet (xMove g0) p11 
(oSet (xNil g11) p12 
(oSet (xLook (lkFieldAddr (nat_lit 0) g12)) p13 
(oSet (xLook (lkFieldAddr (nat_lit 1) g13)) p14 
(oSet (xLook (lkLoad1 g14)) p15 
(oSet (xMove g1) p16 
(oSet (xTurn (tnAppend (nat_lit 1) g15 g16)) p17 
(oSet (xNil g10) p18 
(oSet (xLook (lkFieldAddr (nat_lit 0) g18)) p19 
(oSet (xLook (lkFieldAddr (nat_lit 1) g19)) p20 
(oDo (xTurn (tnStore (nat_lit 1) g20 g17)) 
oEnd))))))))))))))⟩
noncomputable def k49 : KFun := ⟨[], (kSeq (oSet (xMove g0) p10 
(oSet (xLook (lkLoad1 g1)) p11 
(oSet (xLook (lkLen .sl g11)) p12 
(oSet (xCall q137 [g10, g12]) p13 
oEnd)))) (kSeq (oSet (xLook (lkLoad1 g1)) p14 
(oSet (xLook (lkLen .sl g14)) p15 
(oSet (xMove q8) p16 
oEnd))) (kBlock (nat_lit 0) (kLoop (kSeq (oSet (xLook (lkBin .lss g16 g15)) p17 
oEnd) (kSeq (kCond g17 kSkip (kExit (nat_lit 0))) (kSeq (kBlock (nat_lit 1) (kSeq (oSet (xLook (lkIxSl (nat_lit 2) g14 g16)) p18 
(oSet (xLook (lkLoadN (nat_lit 2) g18)) p19 
(oSet (xTurn (tnAlloc q32)) p5 
(oDo (xTurn (tnStore (nat_lit 2) g5 g19)) 
oEnd)))) (kSeq (oSet (xMove g0) p20 
(oSet (xLook (lkFieldAddr (nat_lit 0) g5)) p21 
(oSet (xLook (lkLoad1 g21)) p22 
(oSet (xCall q138 [g20, g22]) p23 
oEnd)))) (kSeq (oSet (xMove g0) p24 
(oSet (xLook (lkFieldAddr (nat_lit 1) g5)) p25 
(oSet (xLook (lkLoad1 g25)) p26 
(oSet (xLook (lkLen .sl g26)) p27 
(oSet (xCall q137 [g24, g27]) p28 
oEnd))))) (kSeq (oSet (xLook (lkFieldAddr (nat_lit 1) g5)) p29 
(oSet (xLook (lkLoad1 g29)) p30 
(oSet (xLook (lkLen .sl g30)) p31 
(oSet (xMove q8) p32 
oEnd)))) (kBlock (nat_lit 2) (kLoop (kSeq (oSet (xLook (lkBin .lss g32 g31)) p33 
oEnd) (kSeq (kCond g33 kSkip (kExit (nat_lit 2))) (kSeq (kBlock (nat_lit 3) (kSeq (oSet (xLook (lkIxSl (nat_lit 1) g30 g32)) p34 
(oSet (xLook (lkLoad1 g34)) p35 
(oSet (xMove g35) p7 
oEnd))) (kSeq (oSet (xMove g7) p37 
(oSet (xCall q133 [g37]) p38 
(oSet (xMove g38) p36 
(oSet (xLook (lkExtract (nat_lit 0) g36)) p39 
(oSet (xLook (lkExtract (nat_lit 1) g36)) p40 
(oSet (xMove g39) p8 
(oSet (xMove g40) p9 
oEnd))))))) (oSet (xMove g0) p41 
(oSet (xLook (lkLoad1 g2)) p42 
(oSet (xMove g8) p43 
(oSet (xLook (lkBytesTo g43)) p44 
(oSet (xLook (lkLookup (.one .str) (.int .i64 (.ofNat (nat_lit 0))) false g42 g44)) p45 
(oSet (xCall q137 [g41, g45]) p46 
oEnd))))))))) (oSet (xLook (lkBin .add g32 q12)) p47 
(oSet (xMove g47) p32 
oEnd)))))))))))) (oSet (xLook (lkBin .add g16 q12)) p48 
(oSet (xMove g48) p16 
oEnd)))))))))⟩
def q144 : List Value := [(.int .i64 (.ofNat (nat_lit 0))), (.int .i64 (.ofNat (nat_lit 0))), (.int .i64 (.ofNat (nat_lit 0))), (.int .i64 (.ofNat (nat_lit 0))), (.int .i64 (.ofNat (nat_lit 0))), (.string ⟨⟨[]⟩⟩)]
def q145 : OpdF := kC (.func (.func (nat_lit 98)) ⟨[]⟩ ⟨[]⟩)
def q146 : List Value := [(.slice none (nat_lit 0) (nat_lit 0)), (.slice none (nat_lit 0) (nat_lit 0))]
def q147 : OpdF := kC (.func (.func (nat_lit 99)) ⟨[]⟩ ⟨[]⟩)
noncomputable def k50 : KFun := ⟨[rTmp (nat_lit 2) g2, rTmp (nat_lit 3) g3], (kSeq (oSet (xMove q23) p2 
(oSet (xMove q8) p3 
oEnd)) (kSeq (kSeq (oSet (xMove g0) p14 
(oSet (xCall q132 [g14]) p15 
(oSet (xMove g15) p13 
(oSet (xLook (lkExtract (nat_lit 0) g13)) p16 
(oSet (xLook (lkExtract (nat_lit 1) g13)) p17 
(oSet (xMove g16) p4 
(oSet (xMove g17) p5 
oEnd))))))) (kSeq (oSet (xMove g4) p18 
(oSet (xLook (lkEq true .int g18 q8)) p19 
oEnd)) (kCond g19 (kSeq (oSet (xMove g4) p20 
(oSet (xMove q23) p2 
(oSet (xMove g20) p3 
oEnd))) kRet) kSkip))) (kSeq (oSet (xCall q135 []) p21 
(oSet (xMove g21) p6 
oEnd)) (kSeq (oSet (xMove g6) p22 
(oSet (xMove g0) p23 
(oSet (xLook (lkLen .sl g23)) p24 
(oSet (xCall q137 [g22, g24]) p25 
oEnd)))) (kSeq (oSet (xMove g6) p27 
(oSet (xCall q136 [g27]) p28 
(oSet (xMove g28) p26 
(oSet (xLook (lkExtract (nat_lit 0) g26)) p29 
(oSet (xLook (lkExtract (nat_lit 1) g26)) p30 
(oSet (xMove g29) p7 
(oSet (xMove g30) p8 
oEnd))))))) (kSeq (kSeq (oSet (xMove g0) p31 
(oSet (xLook (lkLen .sl g31)) p32 
(oSet (xMove q8) p33 
oEnd))) (kBlock (nat_lit 0) (kLoop (kSeq (oSet (xLook (lkBin .lss g33 g32)) p34 
oEnd) (kSeq (kCond g34 kSkip (kExit (nat_lit 0))) (kSeq (kBlock (nat_lit 1) (kSeq (oSet (xLook (lkIxSl (nat_lit 6) g31 g33)) p35 
(oSet (xLook (lkLoadN (nat_lit 6) g35)) p36 
(oSet (xTurn (tnAlloc q144)) p10 
(oDo (xTurn (tnStore (nat_lit 6) g10 g36)) 
oEnd)))) (kSeq (oSet (xLook (lkLoadN (nat_lit 6) g10)) p38 
(oSet (xCall q145 [g38]) p39 
(oSet (xMove g39) p37 
(oSet (xLook (lkExtract (nat_lit 0) g37)) p40 
(oSet (xLook (lkExtract (nat_lit 1) g37)) p41 
(oSet (xMove g40) p11 
(oSet (xMove g41) p12 
oEnd))))))) (oSet (xMove g7) p42 
(oSet (xMove g11) p43 
(oSet (xTurn (tnBuildSlice q146 [((nat_lit 0), (nat_lit 1), g42), ((nat_lit 1), (nat_lit 1), g43)] (nat_lit 2))) p44 
(oSet (xCall q147 [g44]) p45 
(oSet (xMove g45) p7 
oEnd)))))))) (oSet (xLook (lkBin .add g33 q12)) p46 
(oSet (xMove g46) p33 
oEnd)))))))) (kSeq (oSet (xMove g7) p47 
(oSet (xMove g47) p2 
(oSet (xMove q8) p3 
oEnd))) kRet)))))))⟩
def q148 : OpdF := kC (.func (.func (nat_lit 100)) ⟨[]⟩ ⟨[]⟩)
def q149 : OpdF := kC (.func (.func (nat_lit 101)) ⟨[]⟩ ⟨[]⟩)
def q150 : OpdF := kC (.func (.func (nat_lit 102)) ⟨[]⟩ ⟨[]⟩)
noncomputable def k51 : KFun := ⟨[rCellN (nat_lit 2) g2 (nat_lit 32)], (kSeq (oSet (xTurn (tnAlloc q66)) p2 
oEnd) (kSeq (oSet (xCall q148 []) p4 
(oSet (xMove g4) p3 
oEnd)) (kSeq (oSet (xMove g3) p5 
(oSet (xMove g0) p6 
(oSet (xCall q149 [g5, g6]) p7 
oEnd))) (kSeq (oSet (xMove g3) p8 
(oSet (xCall q150 [g8]) p9 
(oDo (xTurn (tnStore (nat_lit 32) g2 g9)) 
oEnd))) kRet))))⟩
noncomputable def k52 : KFun := ⟨[rTmp (nat_lit 4) g4], (kSeq (oSet (xMove q0) p4 
oEnd) (kSeq (oSet (xMove g0) p5 
(oSet (xLook (lkBytesTo g5)) p6 
(oSet (xMove g1) p7 
(oSet (xLook (lkBytesTo g7)) p8 
(oSet (xLook (lkEq false .str g6 g8)) p9 
(oSet (xMove g9) p4 
oEnd)))))) kRet))⟩
def q151 : List Value := [(.bool false), (.slice none (nat_lit 0) (nat_lit 0)), (.int .i64 (.ofNat (nat_lit 0))), (.int .i64 (.ofNat (nat_lit 0)))]
def q152 : List Value := [(.bool false), (.slice none (nat_lit 0) (nat_lit 0)), (.int .i64 (.ofNat (nat_lit 0))), (.int .i64 (.ofNat (nat_lit 0))), (.int .i64 (.ofNat (nat_lit 0)))]
noncomputable def k53 : KFun := ⟨[rTmp (nat_lit 2) g2], (kSeq (oSet (xMove q5) p2 
oEnd) (kSeq (oSet (xTurn (tnBuildSlice [] [] (nat_lit 0))) p3 
(oSet (xMove g0) p4 
(oSet (xTurn (tnAppend (nat_lit 1) g3 g4)) p5 
(oSet (xLook (lkBuild q151 [((nat_lit 0), (nat_lit 1), q3), ((nat_lit 1), (nat_lit 1), g5)])) p6 
(oSet (xLook (lkBuild q152 [((nat_lit 0), (nat_lit 4), g6)])) p7 
(oSet (xTurn (tnBox g7)) p8 
(oSet (xMove g8) p2 
oEnd))))))) kRet))⟩
def q153 : OpdF := kC (.func (.func (nat_lit 103)) ⟨[]⟩ ⟨[]⟩)
def q154 : OpdF := kC (.func (.func (nat_lit 104)) ⟨[]⟩ ⟨[]⟩)
def q155 : OpdF := kC (.func (.func (nat_lit 105)) ⟨[]⟩ ⟨[]⟩)
def q156 : OpdF := kC (.int .i64 (.ofNat (nat_lit 512)))
def q157 : OpdF := kC (.func (.func (nat_lit 106)) ⟨[]⟩ ⟨[]⟩)
noncomputable def k54 : KFun := ⟨[rTmp (nat_lit 2) g2], (kSeq (oSet (xMove q23) p2 
oEnd) (kSeq (oSet (xMove q23) p3 
oEnd) (kSeq (oSet (xMove q104) p4 
oEnd) (kSeq (kSeq (oSet (xMove g0) p10 
(oSet (xNil g10) p11 
(oSet (xLook (lkFieldAddr (nat_lit 0) g11)) p12 
(oSet (xLook (lkLoad1 g12)) p13 
(oSet (xCall q153 [g13, q44]) p14 
(oSet (xMove q8) p15 
oEnd)))))) (kBlock (nat_lit 0) (kLoop (kSeq (oSet (xLook (lkBin .lss g15 g14)) p16 
oEnd) (kSeq (kCond g16 kSkip (kExit (nat_lit 0))) (kSeq (kBlock (nat_lit 1) (kSeq (oSet (xMove g15) p17 
(oSet (xMove g17) p5 
oEnd)) (kSeq (oSet (xMove g0) p18 
(oSet (xNil g18) p19 
(oSet (xLook (lkFieldAddr (nat_lit 0) g19)) p20 
(oSet (xLook (lkLoad1 g20)) p21 
(oSet (xCall q154 [g21]) p22 
(oSet (xMove g22) p6 
oEnd)))))) (kSeq (oSet (xMove g0) p23 
(oSet (xNil g23) p24 
(oSet (xLook (lkFieldAddr (nat_lit 0) g24)) p25 
(oSet (xLook (lkLoad1 g25)) p26 
(oSet (xCall q155 [g26, q156]) p27 
(oSet (xMove g27) p7 
oEnd)))))) (kSeq (oSet (xMove g7) p29 
(oSet (xTurn (tnToBytes g29)) p30 
(oSet (xCall q130 [g30]) p31 
(oSet (xMove g31) p28 
(oSet (xLook (lkExtract (nat_lit 0) g28)) p32 
(oSet (xLook (lkExtract (nat_lit 1) g28)) p33 
(oSet (xTurn (tnAlloc q35)) p9 
(oSet (xMove g32) p8 
(oDo (xTurn (tnStore (nat_lit 2) g9 g33)) 
oEnd))))))))) (kSeq (kSeq (oSet (xLook (lkFieldAddr (nat_lit 0) g9)) p34 
(oSet (xLook (lkLoad1 g34)) p35 
(oSet (xLook (lkEq true .int g35 q8)) p36 
(oSet (xMove g36) p37 
(oSetIf (wantF g37) (xMove g5) p38 
(oSetIf (wantF g37) (xLook (lkBin .gtr g38 q8)) p39 
(oSetIf (wantF g37) (xMove g39) p40 
(oSetIf (wantT g40) (xMove g7) p41 
(oSetIf (wantT g40) (xMove g4) p42 
(oSetIf (wantT g40) (xLook (lkBin .leq g41 g42)) p43 
(oSetIf (wantF g37) (xLook (lkPick g40 g43 q0)) p44 
(oSet (xLook (lkPick g37 q3 g44)) p45 
oEnd)))))))))))) (kCond g45 (oSet (xMove g0) p46 
(oSet (xMove g6) p47 
(oSet (xCall q157 [g46, g47]) p48 
oEnd))) kSkip)) (kSeq (kSeq (oSet (xMove g0) p49 
(oSet (xCall q78 [g49]) p50 
oEnd)) (kCond g50 (kSeq (oSet (xMove q23) p2 
oEnd) kRet) kSkip)) (oSet (xMove g3) p51 
(oSet (xMove g8) p52 
(oSet (xTurn (tnBuildSlice q14 [((nat_lit 0), (nat_lit 1), g52)] (nat_lit 1))) p53 
(oSet (xTurn (tnAppend (nat_lit 1) g51 g53)) p54 
(oSet (xMove g7) p55 
(oSet (xMove g54) p3 
(oSet (xMove g55) p4 
oEnd)))))))))))))) (oSet (xLook (lkBin .add g15 q12)) p56 
(oSet (xMove g56) p15 
oEnd)))))))) (kSeq (oSet (xMove g3) p57 
(oSet (xMove g57) p2 
oEnd)) kRet)))))⟩
def q158 : OpdF := kC (.func (.func (nat_lit 107)) ⟨[]⟩ ⟨[]⟩)
noncomputable def k55 : KFun := ⟨[rTmp (nat_lit 2) g2], (kSeq (oSet (xMove q0) p2 
oEnd) (kSeq (oSet (xMove g0) p3 
(oSet (xNil g3) p4 
(oSet (xLook (lkFieldAddr (nat_lit 1) g4)) p5 
(oSet (xLook (lkFieldAddr (nat_lit 0) g5)) p6 
(oSet (xLook (lkLoad1 g6)) p7 
(oSet (xLook (lkEq true .int g7 q8)) p8 
(oSet (xMove g8) p9 
(oSetIf (wantF g9) (xMove g0) p10 
(oSetIf (wantF g9) (xNil g10) p11 
(oSetIf (wantF g9) (xLook (lkFieldAddr (nat_lit 0) g11)) p12 
(oSetIf (wantF g9) (xLook (lkLoad1 g12)) p13 
(oSetIf (wantF g9) (xCall q158 [g13]) p14 
(oSetIf (wantF g9) (xLook (lkField1 (nat_lit 0) g14)) p15 
(oSetIf (wantF g9) (xLook (lkEq true .int g15 q8)) p16 
(oSet (xLook (lkPick g9 q3 g16)) p17 
(oSet (xMove g17) p2 
oEnd)))))))))))))))) kRet))⟩
noncomputable def k56d0 : KD := 
(dLook (nat_lit 18) [] [(nat_lit 2)] (lkPick g36 q3 g49) p50 (dEnd [(nat_lit 32), (nat_lit 33), (nat_lit 34), (nat_lit 35), (nat_lit 36), (nat_lit 37), (nat_lit 38), (nat_lit 39), (nat_lit 40), (nat_lit 41), (nat_lit 42), (nat_lit 43), (nat_lit 44), (nat_lit 45), (nat_lit 46), (nat_lit 47), (nat_lit 48), (nat_lit 49), (nat_lit 50)]))
noncomputable def k56d1 : KD := 
(dIf [(nat_lit 2)] (wantF g36) p49 (dLook (nat_lit 17) [] [(nat_lit 2)] (lkPick g39 g48 q0) p49 k56d0) k56d0)
noncomputable def k56d2 : KD := 
(dIf [(nat_lit 2)] (wantT g39) p48 (dLook (nat_lit 16) [] [(nat_lit 2)] (lkBin .geq g45 g47) p48 k56d1) k56d1)
noncomputable def k56d3 : KD := 
(dIf [(nat_lit 2)] (wantT g39) p47 (dLook (nat_lit 15) [] [(nat_lit 2)] (lkLoad1 g46) p47 k56d2) k56d2)
noncomputable def k56d4 : KD := 
(dIf [(nat_lit 2)] (wantT g39) p46 (dLook (nat_lit 14) [] [(nat_lit 2)] (lkFieldAddr (nat_lit 0) g10) p46 k56d3) k56d3)
noncomputable def k56d5 : KD := 
(dIf [(nat_lit 2)] (wantT g39) p45 (dLook (nat_lit 13) [] [(nat_lit 2)] (lkLoad1 g44) p45 k56d4) k56d4)
noncomputable def k56d6 : KD := 
(dIf [(nat_lit 2)] (wantT g39) p44 (dLook (nat_lit 12) [] [(nat_lit 2)] (lkFieldAddr (nat_lit 0) g43) p44 k56d5) k56d5)
noncomputable def k56d7 : KD := 
(dIf [(nat_lit 2)] (wantT g39) p43 (dLook (nat_lit 11) [] [(nat_lit 2)] (lkIxSl (nat_lit 2) g40 g42) p43 k56d6) k56d6)
noncomputable def k56d8 : KD := 
(dIf [(nat_lit 2)] (wantT g39) p42 (dLook (nat_lit 10) [] [(nat_lit 2)] (lkBin .sub g41 q12) p42 k56d7) k56d7)
noncomputable def k56d9 : KD := 
(dIf [(nat_lit 2)] (wantT g39) p41 (dLook (nat_lit 9) [] [(nat_lit 2)] (lkMove g8) p41 k56d8) k56d8)
noncomputable def k56d10 : KD := 
(dIf [(nat_lit 2)] (wantT g39) p40 (dLook (nat_lit 8) [] [(nat_lit 2)] (lkMove g6) p40 k56d9) k56d9)
noncomputable def k56d11 : KD := 
(dIf [(nat_lit 2)] (wantF g36) p39 (dLook (nat_lit 7) [] [(nat_lit 2)] (lkMove g38) p39 k56d10) k56d10)
noncomputable def k56d12 : KD := 
(dIf [(nat_lit 2)] (wantF g36) p38 (dLook (nat_lit 6) [] [(nat_lit 2)] (lkBin .gtr g37 q8) p38 k56d11) k56d11)
def q159 : OpdF := kC (.func (.func (nat_lit 108)) ⟨[]⟩ ⟨[]⟩)
def q160 : OpdF := kC (.func (.func (nat_lit 109)) ⟨[]⟩ ⟨[]⟩)
noncomputable def k56 : KFun := ⟨[rTmp (nat_lit 4) g4, rTmp (nat_lit 5) g5], (kSeq (oSet (xMove q23) p4 
(oSet (xMove q77) p5 
oEnd)) (kSeq (oSet (xMove q23) p6 
oEnd) (kSeq (oSet (xTurn (tnMkMap (.one (.int .i64)))) p12 
(oSet (xMove g12) p7 
oEnd)) (kSeq (kSeq (oSet (xMove g0) p13 
(oSet (xNil g13) p14 
(oSet (xLook (lkFieldAddr (nat_lit 0) g14)) p15 
(oSet (xLook (lkLoad1 g15)) p16 
(oSet (xCall q153 [g16, q40]) p17 
(oSet (xMove q8) p18 
oEnd)))))) (kBlock (nat_lit 0) (kLoop (kSeq (oSet (xLook (lkBin .lss g18 g17)) p19 
oEnd) (kSeq (kCond g19 kSkip (kExit (nat_lit 0))) (kSeq (kBlock (nat_lit 1) (kSeq (oSet (xMove g18) p20 
(oSet (xMove g20) p8 
oEnd)) (kSeq (oSet (xMove g0) p21 
(oSet (xNil g21) p22 
(oSet (xLook (lkFieldAddr (nat_lit 0) g22)) p23 
(oSet (xLook (lkLoad1 g23)) p24 
(oSet (xCall q154 [g24]) p25 
(oSet (xMove g25) p9 
oEnd)))))) (kSeq (oSet (xMove g0) p26 
(oSet (xNil g26) p27 
(oSet (xLook (lkFieldAddr (nat_lit 0) g27)) p28 
(oSet (xLook (lkLoad1 g28)) p29 
(oSet (xCall q155 [g29, q105]) p30 
(oSet (xLook (lkBuild q32 [((nat_lit 0), (nat_lit 1), g30)])) p31 
(oSet (xTurn (tnAlloc q32)) p10 
(oDo (xTurn (tnStore (nat_lit 2) g10 g31)) 
oEnd)))))))) (kSeq (kSeq (kDraw 
(dLook (nat_lit 0) [] [] (lkFieldAddr (nat_lit 0) g10) p32 
(dLook (nat_lit 1) [] [] (lkLoad1 g32) p33 
(dTurn (nat_lit 2) [] [] true (xCall q48 [g33]) p34 
(dLook (nat_lit 3) [] [(nat_lit 2)] (lkUn .not g34) p35 
(dLook (nat_lit 4) [] [(nat_lit 2)] (lkMove g35) p36 
(dIf [(nat_lit 2)] (wantF g36) p37 (dLook (nat_lit 5) [] [(nat_lit 2)] (lkMove g8) p37 k56d12) k56d12))))))) (kCond g50 (oSet (xMove g0) p51 
(oSet (xMove g9) p52 
(oSet (xCall q157 [g51, g52]) p53 
oEnd))) kSkip)) (kSeq (kSeq (oSet (xMove g0) p54 
(oSet (xCall q78 [g54]) p55 
oEnd)) (kCond g55 (kSeq (oSet (xMove q23) p4 
(oSet (xMove q77) p5 
oEnd)) kRet) kSkip)) (kSeq (kSeq (oSet (xMove g0) p56 
(oSet (xNil g56) p57 
(oSet (xLook (lkFieldAddr (nat_lit 0) g57)) p58 
(oSet (xLook (lkLoad1 g58)) p59 
(oSet (xCall q153 [g59, q131]) p60 
(oSet (xMove q8) p61 
oEnd)))))) (kBlock (nat_lit 2) (kLoop (kSeq (oSet (xLook (lkBin .lss g61 g60)) p62 
oEnd) (kSeq (kCond g62 kSkip (kExit (nat_lit 2))) (kSeq (kBlock (nat_lit 3) (kSeq (oSet (xMove g0) p63 
(oSet (xNil g63) p64 
(oSet (xLook (lkFieldAddr (nat_lit 0) g64)) p65 
(oSet (xLook (lkLoad1 g65)) p66 
(oSet (xMove g1) p67 
(oSet (xLook (lkLen .sl g67)) p68 
(oSet (xLook (lkBin .sub g68 q12)) p69 
(oSet (xCall q159 [g66, q8, g69]) p70 
(oSet (xMove g70) p11 
oEnd))))))))) (kSeq (kSeq (oSet (xMove g0) p71 
(oSet (xCall q78 [g71]) p72 
oEnd)) (kCond g72 (kSeq (oSet (xMove q23) p4 
(oSet (xMove q77) p5 
oEnd)) kRet) kSkip)) (kSeq (oSet (xMove g7) p73 
(oSet (xMove g11) p74 
(oSet (xLook (lkBuild [] [])) p75 
(oDo (xTurn (tnMapUpdate (.one (.int .i64)) g73 g74 g75)) 
oEnd)))) (kDraw 
(dLook (nat_lit 0) [] [] (lkFieldAddr (nat_lit 1) g10) p76 
(dLook (nat_lit 1) [] [] (lkLoad1 g76) p77 
(dLook (nat_lit 2) [] [] (lkMove g1) p78 
(dLook (nat_lit 3) [] [] (lkMove g11) p79 
(dLook (nat_lit 4) [] [] (lkIxSl (nat_lit 1) g78 g79) p80 
(dLook (nat_lit 5) [] [] (lkLoad1 g80) p81 
(dTurn (nat_lit 6) [(nat_lit 1)] [] true (xCall q160 [g81]) p82 
(dTurn (nat_lit 7) [] [(nat_lit 6)] false (xTurn (tnBuildSlice q14 [((nat_lit 0), (nat_lit 1), g82)] (nat_lit 1))) p83 
(dTurn (nat_lit 8) [] [(nat_lit 6)] true (xTurn (tnAppend (nat_lit 1) g77 g83)) p84 
(dLook (nat_lit 9) [] [(nat_lit 6), (nat_lit 8)] (lkFieldAddr (nat_lit 1) g10) p85 
(dTurn (nat_lit 10) [] [(nat_lit 6), (nat_lit 8)] true (xTurn (tnStore (nat_lit 1) g85 g84)) noDst (dEnd [(nat_lit 76), (nat_lit 77), (nat_lit 78), (nat_lit 79), (nat_lit 80), (nat_lit 81), (nat_lit 82), (nat_lit 83), (nat_lit 84), (nat_lit 85)]))))))))))))))))) (oSet (xLook (lkBin .add g61 q12)) p86 
(oSet (xMove g86) p61 
oEnd)))))))) (kSeq (kSeq (oSet (xMove g0) p87 
(oSet (xCall q78 [g87]) p88 
oEnd)) (kCond g88 (kSeq (oSet (xMove q23) p4 
(oSet (xMove q77) p5 
oEnd)) kRet) kSkip)) (oSet (xMove g6) p89 
(oSet (xLook (lkLoadN (nat_lit 2) g10)) p90 
(oSet (xTurn (tnBuildSlice q32 [((nat_lit 0), (nat_lit 2), g90)] (nat_lit 1))) p91 
(oSet (xTurn (tnAppend (nat_lit 2) g89 g91)) p92 
(oSet (xMove g92) p6 
oEnd))))))))))))) (oSet (xLook (lkBin .add g18 q12)) p93 
(oSet (xMove g93) p18 
oEnd)))))))) (kSeq (oSet (xMove g6) p94 
(oSet (xMove g7) p95 
(oSet (xMove g94) p4 
(oSet (xMove g95) p5 
oEnd)))) kRet)))))⟩
def q161 : OpdF := kC (.func (.func (nat_lit 110)) ⟨[]⟩ ⟨[]⟩)
noncomputable def k57 : KFun := ⟨[rCellN (nat_lit 2) g2 (nat_lit 2)], (kSeq (oSet (xTurn (tnAlloc q35)) p2 
oEnd) (kSeq (oSet (xMove g0) p4 
(oSet (xCall q158 [g4]) p5 
(oSet (xTurn (tnAlloc q35)) p3 
(oDo (xTurn (tnStore (nat_lit 2) g3 g5)) 
oEnd)))) (kSeq (kSeq (oSet (xLook (lkFieldAddr (nat_lit 0) g3)) p6 
(oSet (xLook (lkLoad1 g6)) p7 
(oSet (xLook (lkEq false .int g7 q8)) p8 
(oSet (xMove g8) p9 
(oSetIf (wantT g9) (xMove g0) p10 
(oSetIf (wantT g9) (xCall q161 [g10]) p11 
(oSetIf (wantT g9) (xLook (lkBin .gtr g11 q8)) p12 
(oSet (xLook (lkPick g9 g12 q0)) p13 
oEnd)))))))) (kCond g13 (oSet (xMove g0) p14 
(oSet (xNil g14) p15 
(oSet (xLook (lkFieldAddr (nat_lit 4) g15)) p16 
(oSet (xLook (lkLoad1 g16)) p17 
(oSet (xLook (lkBuild q35 [((nat_lit 0), (nat_lit 1), q70), ((nat_lit 1), (nat_lit 1), g17)])) p18 
(oDo (xTurn (tnStore (nat_lit 2) g3 g18)) 
oEnd)))))) kSkip)) (kSeq (oSet (xLook (lkLoadN (nat_lit 2) g3)) p19 
(oDo (xTurn (tnStore (nat_lit 2) g2 g19)) 
oEnd)) kRet))))⟩
def q162 : CCode := (.region false [⟨none, (some (nat_lit 5)), (.alloc [(.string ⟨⟨[]⟩⟩), (.slice none (nat_lit 0) (nat_lit 0))]), (nat_lit 0), [], []⟩,
⟨none, none, (.store (nat_lit 2) (.tmp (nat_lit 5)) (.tmp (nat_lit 7))), (nat_lit 1), [], []⟩])
def q163 : CCode := (.block (nat_lit 1) (.region false [⟨none, (some (nat_lit 8)), (.load1 (.tmp (nat_lit 2))), (nat_lit 0), [], []⟩,
⟨none, (some (nat_lit 9)), (.loadN (nat_lit 2) (.tmp (nat_lit 5))), (nat_lit 1), [], []⟩,
⟨none, (some (nat_lit 10)), (.buildSlice [(.string ⟨⟨[]⟩⟩), (.slice none (nat_lit 0) (nat_lit 0))] [⟨(nat_lit 0), (nat_lit 2), (.tmp (nat_lit 9))⟩] (nat_lit 1)), (nat_lit 2), [], []⟩,
⟨none, (some (nat_lit 11)), (.append (nat_lit 2) (.tmp (nat_lit 8)) (.tmp (nat_lit 10))), (nat_lit 3), [], []⟩,
⟨none, none, (.store (nat_lit 1) (.tmp (nat_lit 2)) (.tmp (nat_lit 11))), (nat_lit 4), [], []⟩]))
noncomputable def k58 : KFun := ⟨[rTmp (nat_lit 4) g4], (kSeq (oSet (xTurn (tnBox g0)) p2 
(oSet (xMove q23) p4 
oEnd)) (kSeq (kSeq (oSet (xMove g1) p6 
oEnd) (kBlock (nat_lit 0) (kRange g6 [(nat_lit 7)] q162 q163))) (kSeq (oSet (xLook (lkLoad1 g2)) p12 
(oSet (xMove g12) p4 
oEnd)) kRet)))⟩
def q164 : OpdF := kC (.func (.func (nat_lit 60)) ⟨[]⟩ ⟨[]⟩)
noncomputable def k59 : KFun := ⟨[], (kSeq kSkip (kSeq (oSet (xLook (lkLoad1 g1)) p8 
(oSet (xNil g8) p9 
(oSet (xLook (lkFieldAddr (nat_lit 1) g9)) p10 
(oSet (xLook (lkLoad1 g10)) p11 
(oSet (xLook (lkLen .sl g11)) p12 
(oSet (xMove q8) p13 
oEnd)))))) (kBlock (nat_lit 0) (kLoop (kSeq (oSet (xLook (lkBin .lss g13 g12)) p14 
oEnd) (kSeq (kCond g14 kSkip (kExit (nat_lit 0))) (kSeq (kBlock (nat_lit 1) (kSeq (oSet (xLook (lkIxSl (nat_lit 2) g11 g13)) p15 
(oSet (xLook (lkLoadN (nat_lit 2) g15)) p16 
(oSet (xTurn (tnAlloc q32)) p5 
(oDo (xTurn (tnStore (nat_lit 2) g5 g16)) 
oEnd)))) (kSeq (kSeq (kDraw 
(dLook (nat_lit 0) [] [] (lkLoad1 g1) p18 
(dTurn (nat_lit 1) [] [] false (xNil g18) p19 
(dLook (nat_lit 2) [] [] (lkFieldAddr (nat_lit 0) g19) p20 
(dLook (nat_lit 3) [] [] (lkLoad1 g20) p21 
(dLook (nat_lit 4) [] [] (lkFieldAddr (nat_lit 0) g5) p22 
(dLook (nat_lit 5) [] [] (lkLoad1 g22) p23 
(dTurn (nat_lit 6) [] [] true (xCall q29 [g21, g23]) p24 
(dLook (nat_lit 7) [] [(nat_lit 6)] (lkMove g24) p17 
(dLook (nat_lit 8) [] [(nat_lit 6)] (lkExtract (nat_lit 0) g17) p25 
(dLook (nat_lit 9) [] [(nat_lit 6)] (lkExtract (nat_lit 1) g17) p26 
(dTurn (nat_lit 10) [] [] false (xTurn (tnAlloc q30)) p6 
(dTurn (nat_lit 11) [] [(nat_lit 6)] true (xTurn (tnStore (nat_lit 67) g6 g25)) noDst 
(dLook (nat_lit 12) [] [(nat_lit 6), (nat_lit 11)] (lkMove g26) p7 (dEnd [(nat_lit 18), (nat_lit 19), (nat_lit 20), (nat_lit 21), (nat_lit 22), (nat_lit 23), (nat_lit 24), (nat_lit 17), (nat_lit 25), (nat_lit 26), (nat_lit 6), (nat_lit 7)]))))))))))))))) (kSeq (oSet (xMove g7) p27 
oEnd) (kCond g27 (kSeq (kSeq (oSet (xLook (lkLoad1 g2)) p28 
oEnd) (kBlock (nat_lit 2) (kSeq (oSet (xLook (lkEq false .int g28 q12)) p30 
(oSet (xMove g30) p29 
oEnd)) (kCond g29 (kExit (nat_lit 1)) (kSeq (oSet (xLook (lkEq false .int g28 q8)) p32 
(oSet (xMove g32) p31 
oEnd)) (kCond g31 (kSeq (oSet (xLook (lkLoad1 g1)) p33 
(oSet (xNil g33) p34 
(oSet (xLook (lkFieldAddr (nat_lit 3) g34)) p35 
(oDo (xTurn (tnStore (nat_lit 1) g35 q22)) 
oEnd)))) (kExit (nat_lit 0))) kSkip)))))) (kSeq (kSeq (oSet (xLook (lkLoad1 g1)) p36 
(oSet (xLook (lkFieldAddr (nat_lit 0) g5)) p37 
(oSet (xLook (lkLoad1 g37)) p38 
(oSet (xCall q164 [g36, g38]) p39 
(oSet (xLook (lkFieldAddr (nat_lit 0) g5)) p40 
(oDo (xTurn (tnStore (nat_lit 1) g40 g39)) 
oEnd)))))) (kSeq (oSet (xLook (lkFieldAddr (nat_lit 0) g5)) p41 
(oSet (xLook (lkLoad1 g41)) p42 
(oSet (xLook (lkEq false .str g42 q104)) p43 
oEnd))) (kCond g43 (kSeq (oSet (xLook (lkLoad1 g1)) p44 
(oSet (xNil g44) p45 
(oSet (xLook (lkFieldAddr (nat_lit 3) g45)) p46 
(oDo (xTurn (tnStore (nat_lit 1) g46 q68)) 
oEnd)))) (kExit (nat_lit 0))) kSkip))) (kDraw 
(dLook (nat_lit 0) [] [] (lkLoad1 g1) p47 
(dLook (nat_lit 1) [] [] (lkLoad1 g1) p48 
(dTurn (nat_lit 2) [] [] false (xNil g48) p49 
(dLook (nat_lit 3) [] [] (lkFieldAddr (nat_lit 2) g49) p50 
(dLook (nat_lit 4) [] [] (lkLoad1 g50) p51 
(dLook (nat_lit 5) [] [] (lkFieldAddr (nat_lit 0) g5) p52 
(dLook (nat_lit 6) [] [] (lkLoad1 g52) p53 
(dTurn (nat_lit 7) [] [] false (xTurn (tnBuildSlice q17 [((nat_lit 0), (nat_lit 1), g53)] (nat_lit 1))) p54 
(dTurn (nat_lit 8) [(nat_lit 0)] [] true (xTurn (tnAppend (nat_lit 1) g51 g54)) p55 
(dTurn (nat_lit 9) [] [(nat_lit 8)] false (xNil g47) p56 
(dLook (nat_lit 10) [] [(nat_lit 8)] (lkFieldAddr (nat_lit 2) g56) p57 
(dTurn (nat_lit 11) [] [(nat_lit 8)] true (xTurn (tnStore (nat_lit 1) g57 g55)) noDst (dEnd [(nat_lit 47), (nat_lit 48), (nat_lit 49), (nat_lit 50), (nat_lit 51), (nat_lit 52), (nat_lit 53), (nat_lit 54), (nat_lit 55), (nat_lit 56), (nat_lit 57)])))))))))))))))) kSkip))) (kSeq (oSet (xMove g0) p58 
(oSet (xLook (lkLoadN (nat_lit 2) g5)) p59 
(oSet (xCall g58 [g59]) p60 
(oSet (xLook (lkUn .not g60)) p61 
oEnd)))) (kCond g61 (kExit (nat_lit 0)) kSkip))))) (oSet (xLook (lkBin .add g13 q12)) p62 
(oSet (xMove g62) p13 
oEnd)))))))))⟩
def q165 : OpdF := kC (.int .i64 (.ofNat (nat_lit 99)))
def q166 : OpdF := kC (.func (.func (nat_lit 112)) ⟨[]⟩ ⟨[]⟩)
def q167 : List Value := [(.string ⟨⟨[]⟩⟩), (.string ⟨⟨[]⟩⟩), (.string ⟨⟨[]⟩⟩)]
def q168 : OpdF := kC (.string ⟨⟨[45]⟩⟩)
def q169 : OpdF := kC (.func (.func (nat_lit 111)) ⟨[]⟩ ⟨[]⟩)
def q170 : OpdF := kC (.func (.func (nat_lit 113)) ⟨[]⟩ ⟨[]⟩)
noncomputable def k60 : KFun := ⟨[rTmp (nat_lit 4) g4], (kSeq (oSet (xMove q104) p4 
oEnd) (kSeq (kSeq (oSet (xMove q9) p5 
oEnd) (kBlock (nat_lit 0) (kLoop (kSeq (kSeq (oSet (xMove g5) p9 
(oSet (xLook (lkBin .leq g9 q165)) p10 
oEnd)) (kCond g10 kSkip (kExit (nat_lit 0)))) (kSeq (kBlock (nat_lit 1) (kSeq (oSet (xMove g1) p13 
(oSet (xMove g5) p14 
(oSet (xCall q166 [g14]) p15 
(oSet (xTurn (tnBuildSlice q167 [((nat_lit 0), (nat_lit 1), g13), ((nat_lit 1), (nat_lit 1), q168), ((nat_lit 2), (nat_lit 1), g15)] (nat_lit 3))) p16 
(oSet (xCall q169 [g16]) p17 
(oSet (xMove g17) p6 
oEnd)))))) (kSeq (kSeq (oSet (xMove g0) p19 
(oSet (xNil g19) p20 
(oSet (xLook (lkFieldAddr (nat_lit 0) g20)) p21 
(oSet (xLook (lkLoad1 g21)) p22 
(oSet (xMove g6) p23 
(oSet (xCall q29 [g22, g23]) p24 
(oSet (xMove g24) p18 
(oSet (xLook (lkExtract (nat_lit 0) g18)) p25 
(oSet (xLook (lkExtract (nat_lit 1) g18)) p26 
(oSet (xTurn (tnAlloc q30)) p7 
(oDo (xTurn (tnStore (nat_lit 67) g7 g25)) 
(oSet (xMove g26) p8 
oEnd)))))))))))) (kSeq (oSet (xMove g8) p27 
(oSet (xMove g27) p28 
(oSetIf (wantF g28) (xMove g0) p29 
(oSetIf (wantF g28) (xNil g29) p30 
(oSetIf (wantF g28) (xLook (lkFieldAddr (nat_lit 2) g30)) p31 
(oSetIf (wantF g28) (xLook (lkLoad1 g31)) p32 
(oSetIf (wantF g28) (xMove g6) p33 
(oSetIf (wantF g28) (xCall q170 [g32, g33]) p34 
(oSet (xLook (lkPick g28 q3 g34)) p35 
oEnd))))))))) (kCond g35 (kExit (nat_lit 1)) kSkip))) (kSeq (kSeq (oSet (xMove g6) p36 
(oSet (xCall q48 [g36]) p37 
oEnd)) (kCond g37 (kSeq (oSet (xMove g6) p38 
(oSet (xMove g38) p4 
oEnd)) kRet) kSkip)) (kExit (nat_lit 0)))))) (oSet (xMove g5) p11 
(oSet (xLook (lkBin .add g11 q12)) p12 
(oSet (xMove g12) p5 
oEnd)))))))) (kSeq (oSet (xMove q104) p4 
oEnd) kRet)))⟩
noncomputable def k61 : KFun := ⟨[rTmp (nat_lit 2) g2], (kSeq (oSet (xMove q23) p2 
oEnd) (kSeq (kSeq (oSet (xMove g0) p3 
(oSet (xLook (lkEq false .slice g3 q23)) p4 
oEnd)) (kCond g4 (kSeq (oSet (xMove q23) p2 
oEnd) kRet) kSkip)) (kSeq (oSet (xTurn (tnBuildSlice [] [] (nat_lit 0))) p5 
(oSet (xMove g0) p6 
(oSet (xTurn (tnAppend (nat_lit 67) g5 g6)) p7 
(oSet (xMove g7) p2 
oEnd)))) kRet)))⟩
noncomputable def k62 : KFun := ⟨[rTmp (nat_lit 2) g2], (kSeq (oSet (xMove q23) p2 
oEnd) (kSeq (kSeq (oSet (xMove g0) p3 
(oSet (xLook (lkEq false .slice g3 q23)) p4 
oEnd)) (kCond g4 (kSeq (oSet (xMove q23) p2 
oEnd) kRet) kSkip)) (kSeq (oSet (xTurn (tnBuildSlice [] [] (nat_lit 0))) p5 
(oSet (xMove g0) p6 
(oSet (xTurn (tnAppend (nat_lit 33) g5 g6)) p7 
(oSet (xMove g7) p2 
oEnd)))) kRet)))⟩
def q172 : OpdF := kC (.func (.func (nat_lit 115)) ⟨[]⟩ ⟨[]⟩)
def q173 : List Value := [(.int .u8 (.ofNat (nat_lit 0))), (.int .u8 (.ofNat (nat_lit 0))), (.int .u8 (.ofNat (nat_lit 0))), (.int .u8 (.ofNat (nat_lit 0))), (.int .u8 (.ofNat (nat_lit 0))), (.int .u8 (.ofNat (nat_lit 0))), (.int .u8 (.ofNat (nat_lit 0))), (.int .u8 (.ofNat (nat_lit 0))), (.int .u8 (.ofNat (nat_lit 0))), (.int .u8 (.ofNat (nat_lit 0))), (.int .u8 (.ofNat (nat_lit 0))), (.int .u8 (.ofNat (nat_lit 0))), (.int .u8 (.ofNat (nat_lit 0))), (.int .u8 (.ofNat (nat_lit 0))), (.int .u8 (.ofNat (nat_lit 0))), (.int .u8 (.ofNat (nat_lit 0))), (.int .u8 (.ofNat (nat_lit 0))), (.int .u8 (.ofNat (nat_lit 0))), (.int .u8 (.ofNat (nat_lit 0))), (.int .u8 (.ofNat (nat_lit 0))), (.int .u8 (.ofNat (nat_lit 0))), (.int .u8 (.ofNat (nat_lit 0))), (.int .u8 (.ofNat (nat_lit 0))), (.int .u8 (.ofNat (nat_lit 0))), (.int .u8 (.ofNat (nat_lit 0))), (.int .u8 (.ofNat (nat_lit 0))), (.int .u8 (.ofNat (nat_lit 0))), (.int .u8 (.ofNat (nat_lit 0))), (.int .u8 (.ofNat (nat_lit 0))), (.int .u8 (.ofNat (nat_lit 0))), (.int .u8 (.ofNat (nat_lit 0))), (.int .u8 (.ofNat (nat_lit 0))), (.int .u8 (.ofNat (nat_lit 0))), (.int .u8 (.ofNat (nat_lit 0))), (.int .u8 (.ofNat (nat_lit 0))), (.int .u8 (.ofNat (nat_lit 0))), (.int .u8 (.ofNat (nat_lit 0))), (.int .u8 (.ofNat (nat_lit 0))), (.int .u8 (.ofNat (nat_lit 0))), (.int .u8 (.ofNat (nat_lit 0))), (.int .u8 (.ofNat (nat_lit 0))), (.int .u8 (.ofNat (nat_lit 0))), (.int .u8 (.ofNat (nat_lit 0))), (.int .u8 (.ofNat (nat_lit 0))), (.int .u8 (.ofNat (nat_lit 0))), (.int .u8 (.ofNat (nat_lit 0))), (.int .u8 (.ofNat (nat_lit 0))), (.int .u8 (.ofNat (nat_lit 0))), (.int .u8 (.ofNat (nat_lit 0))), (.int .u8 (.ofNat (nat_lit 0))), (.int .u8 (.ofNat (nat_lit 0))), (.int .u8 (.ofNat (nat_lit 0))), (.int .u8 (.ofNat (nat_lit 0))), (.int .u8 (.ofNat (nat_lit 0))), (.int .u8 (.ofNat (nat_lit 0))), (.int .u8 (.ofNat (nat_lit 0))), (.int .u8 (.ofNat (nat_lit 0))), (.int .u8 (.ofNat (nat_lit 0))), (.int .u8 (.ofNat (nat_lit 0))), (.int .u8 (.ofNat (nat_lit 0))), (.int .u8 (.ofNat (nat_lit 0))), (.int .u8 (.ofNat (nat_lit 0))), (.int .u8 (.ofNat (nat_lit 0))), (.int .u8 (.ofNat (nat_lit 0)))]
def q174 : List Value := [(.int .i64 (.ofNat (nat_lit 0))), (.int .u8 (.ofNat (nat_lit 0))), (.int .u8 (.ofNat (nat_lit 0))), (.int .u8 (.ofNat (nat_lit 0))), (.int .u8 (.ofNat (nat_lit 0))), (.int .u8 (.ofNat (nat_lit 0))), (.int .u8 (.ofNat (nat_lit 0))), (.int .u8 (.ofNat (nat_lit 0))), (.int .u8 (.ofNat (nat_lit 0))), (.int .u8 (.ofNat (nat_lit 0))), (.int .u8 (.ofNat (nat_lit 0))), (.int .u8 (.ofNat (nat_lit 0))), (.int .u8 (.ofNat (nat_lit 0))), (.int .u8 (.ofNat (nat_lit 0))), (.int .u8 (.ofNat (nat_lit 0))), (.int .u8 (.ofNat (nat_lit 0))), (.int .u8 (.ofNat (nat_lit 0))), (.int .u8 (.ofNat (nat_lit 0))), (.int .u8 (.ofNat (nat_lit 0))), (.int .u8 (.ofNat (nat_lit 0))), (.int .u8 (.ofNat (nat_lit 0))), (.int .u8 (.ofNat (nat_lit 0))), (.int .u8 (.ofNat (nat_lit 0))), (.int .u8 (.ofNat (nat_lit 0))), (.int .u8 (.ofNat (nat_lit 0))), (.int .u8 (.ofNat (nat_lit 0))), (.int .u8 (.ofNat (nat_lit 0))), (.int .u8 (.ofNat (nat_lit 0))), (.int .u8 (.ofNat (nat_lit 0))), (.int .u8 (.ofNat (nat_lit 0))), (.int .u8 (.ofNat (nat_lit 0))), (.int .u8 (.ofNat (nat_lit 0))), (.int .u8 (.ofNat (nat_lit 0))), (.int .u8 (.ofNat (nat_lit 0))), (.int .u8 (.ofNat (nat_lit 0))), (.int .u8 (.ofNat (nat_lit 0))), (.int .u8 (.ofNat (nat_lit 0))), (.int .u8 (.ofNat (nat_lit 0))), (.int .u8 (.ofNat (nat_lit 0))), (.int .u8 (.ofNat (nat_lit 0))), (.int .u8 (.ofNat (nat_lit 0))), (.int .u8 (.ofNat (nat_lit 0))), (.int .u8 (.ofNat (nat_lit 0))), (.int .u8 (.ofNat (nat_lit 0))), (.int .u8 (.ofNat (nat_lit 0))), (.int .u8 (.ofNat (nat_lit 0))), (.int .u8 (.ofNat (nat_lit 0))), (.int .u8 (.ofNat (nat_lit 0))), (.int .u8 (.ofNat (nat_lit 0))), (.int .u8 (.ofNat (nat_lit 0))), (.int .u8 (.ofNat (nat_lit 0))), (.int .u8 (.ofNat (nat_lit 0))), (.int .u8 (.ofNat (nat_lit 0))), (.int .u8 (.ofNat (nat_lit 0))), (.int .u8 (.ofNat (nat_lit 0))), (.int .u8 (.ofNat (nat_lit 0))), (.int .u8 (.ofNat (nat_lit 0))), (.int .u8 (.ofNat (nat_lit 0))), (.int .u8 (.ofNat (nat_lit 0))), (.int .u8 (.ofNat (nat_lit 0))), (.int .u8 (.ofNat (nat_lit 0))), (.int .u8 (.ofNat (nat_lit 0))), (.int .u8 (.ofNat (nat_lit 0))), (.int .u8 (.ofNat (nat_lit 0))), (.int .u8 (.ofNat (nat_lit 0)))]
noncomputable def k64 : KFun := ⟨[rTmp (nat_lit 4) g4, rTmp (nat_lit 5) g5], (kSeq (oSet (xMove q23) p4 
(oSet (xMove q8) p5 
oEnd)) (kSeq (kSeq (oSet (xMove g0) p10 
(oSet (xMove g1) p11 
(oSet (xCall q172 [g10, g11]) p12 
(oSet (xMove g12) p6 
oEnd)))) (kSeq (oSet (xMove g6) p13 
(oSet (xLook (lkEq true .int g13 q8)) p14 
oEnd)) (kCond g14 (kSeq (oSet (xMove g6) p15 
(oSet (xMove q23) p4 
(oSet (xMove g15) p5 
oEnd))) kRet) kSkip))) (kSeq (oSet (xMove g0) p16 
(oSet (xNil g16) p17 
(oSet (xLook (lkFieldAddr (nat_lit 5) g17)) p18 
(oSet (xLook (lkLoad1 g18)) p19 
(oSet (xMove g1) p20 
(oSet (xLook (lkLookup (.one (.int .i64)) (.agg ⟨[(.int .u8 (.ofNat (nat_lit 0))), (.int .u8 (.ofNat (nat_lit 0))), (.int .u8 (.ofNat (nat_lit 0))), (.int .u8 (.ofNat (nat_lit 0))), (.int .u8 (.ofNat (nat_lit 0))), (.int .u8 (.ofNat (nat_lit 0))), (.int .u8 (.ofNat (nat_lit 0))), (.int .u8 (.ofNat (nat_lit 0))), (.int .u8 (.ofNat (nat_lit 0))), (.int .u8 (.ofNat (nat_lit 0))), (.int .u8 (.ofNat (nat_lit 0))), (.int .u8 (.ofNat (nat_lit 0))), (.int .u8 (.ofNat (nat_lit 0))), (.int .u8 (.ofNat (nat_lit 0))), (.int .u8 (.ofNat (nat_lit 0))), (.int .u8 (.ofNat (nat_lit 0))), (.int .u8 (.ofNat (nat_lit 0))), (.int .u8 (.ofNat (nat_lit 0))), (.int .u8 (.ofNat (nat_lit 0))), (.int .u8 (.ofNat (nat_lit 0))), (.int .u8 (.ofNat (nat_lit 0))), (.int .u8 (.ofNat (nat_lit 0))), (.int .u8 (.ofNat (nat_lit 0))), (.int .u8 (.ofNat (nat_lit 0))), (.int .u8 (.ofNat (nat_lit 0))), (.int .u8 (.ofNat (nat_lit 0))), (.int .u8 (.ofNat (nat_lit 0))), (.int .u8 (.ofNat (nat_lit 0))), (.int .u8 (.ofNat (nat_lit 0))), (.int .u8 (.ofNat (nat_lit 0))), (.int .u8 (.ofNat (nat_lit 0))), (.int .u8 (.ofNat (nat_lit 0))), (.int .u8 (.ofNat (nat_lit 0))), (.int .u8 (.ofNat (nat_lit 0))), (.int .u8 (.ofNat (nat_lit 0))), (.int .u8 (.ofNat (nat_lit 0))), (.int .u8 (.ofNat (nat_lit 0))), (.int .u8 (.ofNat (nat_lit 0))), (.int .u8 (.ofNat (nat_lit 0))), (.int .u8 (.ofNat (nat_lit 0))), (.int .u8 (.ofNat (nat_lit 0))), (.int .u8 (.ofNat (nat_lit 0))), (.int .u8 (.ofNat (nat_lit 0))), (.int .u8 (.ofNat (nat_lit 0))), (.int .u8 (.ofNat (nat_lit 0))), (.int .u8 (.ofNat (nat_lit 0))), (.int .u8 (.ofNat (nat_lit 0))), (.int .u8 (.ofNat (nat_lit 0))), (.int .u8 (.ofNat (nat_lit 0))), (.int .u8 (.ofNat (nat_lit 0))), (.int .u8 (.ofNat (nat_lit 0))), (.int .u8 (.ofNat (nat_lit 0))), (.int .u8 (.ofNat (nat_lit 0))), (.int .u8 (.ofNat (nat_lit 0))), (.int .u8 (.ofNat (nat_lit 0))), (.int .u8 (.ofNat (nat_lit 0))), (.int .u8 (.ofNat (nat_lit 0))), (.int .u8 (.ofNat (nat_lit 0))), (.int .u8 (.ofNat (nat_lit 0))), (.int .u8 (.ofNat (nat_lit 0))), (.int .u8 (.ofNat (nat_lit 0))), (.int .u8 (.ofNat (nat_lit 0))), (.int .u8 (.ofNat (nat_lit 0))), (.int .u8 (.ofNat (nat_lit 0)))]⟩) false g19 g20)) p21 
(oSet (xTurn (tnAlloc q173)) p7 
(oDo (xTurn (tnStore (nat_lit 64) g7 g21)) 
oEnd)))))))) (kSeq (kSeq (oSet (xMove g0) p22 
(oSet (xNil g22) p23 
(oSet (xLook (lkFieldAddr (nat_lit 6) g23)) p24 
(oSet (xLook (lkLoad1 g24)) p25 
(oSet (xLook (lkLen .sl g25)) p26 
(oSet (xMove q8) p27 
oEnd)))))) (kBlock (nat_lit 0) (kLoop (kSeq (oSet (xLook (lkBin .lss g27 g26)) p28 
oEnd) (kSeq (kCond g28 kSkip (kExit (nat_lit 0))) (kSeq (kBlock (nat_lit 1) (kSeq (oSet (xLook (lkIxSl (nat_lit 65) g25 g27)) p29 
(oSet (xLook (lkLoadN (nat_lit 65) g29)) p30 
(oSet (xTurn (tnAlloc q174)) p9 
(oDo (xTurn (tnStore (nat_lit 65) g9 g30)) 
oEnd)))) (kSeq (oSet (xLook (lkFieldAddr (nat_lit 0) g9)) p31 
(oSet (xLook (lkLoad1 g31)) p32 
(oSet (xMove g1) p33 
(oSet (xLook (lkEq false .int g32 g33)) p34 
oEnd)))) (kCond g34 (oSet (xLook (lkFieldAddr (nat_lit 1) g9)) p35 
(oSet (xLook (lkLoadN (nat_lit 64) g35)) p36 
(oDo (xTurn (tnStore (nat_lit 64) g7 g36)) 
oEnd))) kSkip)))) (oSet (xLook (lkBin .add g27 q12)) p37 
(oSet (xMove g37) p27 
oEnd)))))))) (kSeq (oSet (xLook (lkSliceArr (nat_lit 64) (nat_lit 1) g7 none none none)) p38 
(oSet (xMove g38) p4 
(oSet (xMove q8) p5 
oEnd))) kRet)))))⟩
def q175 : OpdF := kC (.func (.func (nat_lit 116)) ⟨[]⟩ ⟨[]⟩)
noncomputable def k65 : KFun := ⟨[rTmp (nat_lit 2) g2], (kSeq (oSet (xMove q8) p2 
oEnd) (kSeq (kSeq (oSet (xMove g0) p3 
(oSet (xCall q175 [g3]) p4 
oEnd)) (kCond g4 (kSeq (oSet (xMove q8) p2 
oEnd) kRet) kSkip)) (kSeq (oSet (xMove g0) p5 
(oSet (xNil g5) p6 
(oSet (xLook (lkFieldAddr (nat_lit 4) g6)) p7 
(oSet (xLook (lkLoad1 g7)) p8 
(oSet (xMove g8) p2 
oEnd))))) kRet)))⟩
def q176 : List Value := [(.slice none (nat_lit 0) (nat_lit 0)), (.map none)]
noncomputable def k66 : KFun := ⟨[rCellN (nat_lit 0) g0 (nat_lit 2)], (kSeq (oSet (xTurn (tnAlloc q176)) p0 
oEnd) (kSeq (oSet (xTurn (tnMkMap (.many (nat_lit 32) .u8))) p1 
(oSet (xLook (lkBuild q176 [((nat_lit 1), (nat_lit 1), g1)])) p2 
(oDo (xTurn (tnStore (nat_lit 2) g0 g2)) 
oEnd))) kRet))⟩
def q177 : OpdF := kC (.func (.func (nat_lit 117)) ⟨[]⟩ ⟨[]⟩)
def q178 : OpdF := kC (.func (.func (nat_lit 118)) ⟨[]⟩ ⟨[]⟩)
noncomputable def k67 : KFun := ⟨[rCellN (nat_lit 2) g2 (nat_lit 35), rTmp (nat_lit 3) g3, rTmp (nat_lit 4) g4], (kSeq (oSet (xTurn (tnAlloc q95)) p2 
(oSet (xMove q8) p3 
(oSet (xMove q8) p4 
oEnd))) (kSeq (oSet (xMove g0) p10 
(oSet (xCall q177 [g10]) p11 
(oSet (xMove g11) p9 
(oSet (xLook (lkExtract (nat_lit 0) g9)) p12 
(oSet (xLook (lkExtract (nat_lit 1) g9)) p13 
(oSet (xLook (lkExtract (nat_lit 2) g9)) p14 
(oSet (xMove g12) p5 
(oSet (xMove g13) p6 
(oSet (xMove g14) p7 
oEnd))))))))) (kSeq (kSeq (oSet (xMove g7) p15 
(oSet (xLook (lkEq true .int g15 q8)) p16 
oEnd)) (kCond g16 (kSeq (oSet (xLook (lkBuild q95 [])) p17 
(oSet (xMove g7) p18 
(oDo (xTurn (tnStore (nat_lit 35) g2 g17)) 
(oSet (xMove q8) p3 
(oSet (xMove g18) p4 
oEnd))))) kRet) kSkip)) (kSeq (kSeq (oSet (xMove g5) p19 
(oSet (xCall q178 [g19]) p20 
(oSet (xMove g20) p8 
oEnd))) (kBlock (nat_lit 0) (kSeq (oSet (xMove g8) p22 
(oSet (xLook (lkBin .geq g22 q8)) p23 
(oSet (xMove g23) p21 
oEnd))) (kCond g21 (kSeq (oSet (xMove g5) p24 
(oSet (xMove g8) p25 
(oSet (xLook (lkIxSl (nat_lit 1) g24 g25)) p26 
(oSet (xLook (lkLoad1 g26)) p27 
(oSet (xNil g27) p28 
(oSet (xLook (lkLoadN (nat_lit 35) g28)) p29 
(oSet (xMove g8) p30 
(oDo (xTurn (tnStore (nat_lit 35) g2 g29)) 
(oSet (xMove g30) p3 
(oSet (xMove q8) p4 
oEnd)))))))))) kRet) (kSeq (oSet (xMove g6) p32 
(oSet (xMove g32) p31 
oEnd)) (kCond g31 (kSeq (oSet (xLook (lkBuild q95 [])) p33 
(oDo (xTurn (tnStore (nat_lit 35) g2 g33)) 
(oSet (xMove q8) p3 
(oSet (xMove q20) p4 
oEnd)))) kRet) kSkip)))))) (kSeq (oSet (xLook (lkBuild q95 [])) p34 
(oDo (xTurn (tnStore (nat_lit 35) g2 g34)) 
(oSet (xMove q8) p3 
(oSet (xMove q73) p4 
oEnd)))) kRet)))))⟩
def q179 : OpdF := kC (.func (.func (nat_lit 119)) ⟨[]⟩ ⟨[]⟩)
noncomputable def k70 : KFun := ⟨[rTmp (nat_lit 2) g2], (kSeq (oSet (xTurn (tnBox g0)) p1 
(oSet (xMove q8) p2 
oEnd)) (kSeq (oSet (xLook (lkFieldAddr (nat_lit 1) g1)) p3 
(oSet (xLook (lkLoad1 g3)) p4 
(oSet (xCall q179 [g4]) p5 
(oSet (xMove g5) p2 
oEnd)))) kRet))⟩
def q180 : OpdF := kC (.int .i64 (.ofNat (nat_lit 64)))
def q181 : OpdF := kC (.int .u64 (.ofNat (nat_lit 8)))
def q182 : OpdF := kC (.int .i64 (.ofNat (nat_lit 9)))
def q183 : OpdF := kC (.int .i64 (.ofNat (nat_lit 37)))
def q185 : OpdF := kC (.func (.func (nat_lit 120)) ⟨[]⟩ ⟨[]⟩)
def q186 : OpdF := kC (.int .i64 (.ofNat (nat_lit 1500)))
def q187 : OpdF := kC (.func (.func (nat_lit 121)) ⟨[]⟩ ⟨[]⟩)
def q190 : OpdF := kC (.func (.func (nat_lit 124)) ⟨[]⟩ ⟨[]⟩)
noncomputable def k73 : KFun := ⟨[rTmp (nat_lit 2) g2], (kSeq (oSet (xMove q0) p2 
oEnd) (kSeq (oSet (xMove g0) p6 
(oSet (xLook (lkBuild q66 [])) p7 
(oSet (xCall q190 [g6, g7]) p8 
(oSet (xMove g8) p5 
(oSet (xLook (lkExtract (nat_lit 0) g5)) p9 
(oSet (xLook (lkExtract (nat_lit 1) g5)) p10 
(oSet (xMove g9) p3 
(oSet (xMove g10) p4 
oEnd)))))))) (kSeq (oSet (xMove g4) p11 
(oSet (xLook (lkEq true .int g11 q12)) p12 
(oSet (xMove g12) p2 
oEnd))) kRet)))⟩
def q191 : OpdF := kC (.func (.func (nat_lit 125)) ⟨[]⟩ ⟨[]⟩)
def q192 : OpdF := kC (.func (.func (nat_lit 126)) ⟨[]⟩ ⟨[]⟩)
noncomputable def k74 : KFun := ⟨[rTmp (nat_lit 2) g2], (kSeq (oSet (xMove q8) p2 
oEnd) (kSeq (oSet (xMove g0) p8 
(oSet (xNil g8) p9 
(oSet (xLook (lkFieldAddr (nat_lit 1) g9)) p10 
(oDo (xTurn (tnStore (nat_lit 1) g10 q23)) 
oEnd)))) (kSeq (oSet (xMove g0) p11 
(oSet (xNil g11) p12 
(oSet (xLook (lkFieldAddr (nat_lit 0) g12)) p13 
(oSet (xLook (lkFieldAddr (nat_lit 0) g13)) p14 
(oSet (xLook (lkLoad1 g14)) p15 
(oSet (xCall q191 [g15]) p16 
(oSet (xTurn (tnAlloc q66)) p3 
(oDo (xTurn (tnStore (nat_lit 32) g3 g16)) 
oEnd)))))))) (kSeq (kSeq (oSet (xLook (lkLoadN (nat_lit 32) g3)) p17 
(oSet (xLook (lkBuild q66 [])) p18 
(oSet (xLook (lkEq false (.flat [(.int .u8), (.int .u8), (.int .u8), (.int .u8), (.int .u8), (.int .u8), (.int .u8), (.int .u8), (.int .u8), (.int .u8), (.int .u8), (.int .u8), (.int .u8), (.int .u8), (.int .u8), (.int .u8), (.int .u8), (.int .u8), (.int .u8), (.int .u8), (.int .u8), (.int .u8), (.int .u8), (.int .u8), (.int .u8), (.int .u8), (.int .u8), (.int .u8), (.int .u8), (.int .u8), (.int .u8), (.int .u8)]) g17 g18)) p19 
oEnd))) (kCond g19 (kSeq (oSet (xMove q8) p2 
oEnd) kRet) kSkip)) (kSeq (kDraw 
(dLook (nat_lit 0) [] [] (lkMove g0) p21 
(dTurn (nat_lit 1) [] [] false (xNil g21) p22 
(dLook (nat_lit 2) [] [] (lkFieldAddr (nat_lit 0) g22) p23 
(dLook (nat_lit 3) [] [] (lkFieldAddr (nat_lit 0) g23) p24 
(dLook (nat_lit 4) [] [] (lkLoad1 g24) p25 
(dLook (nat_lit 5) [] [] (lkLoadN (nat_lit 32) g3) p26 
(dTurn (nat_lit 6) [] [] true (xCall q190 [g25, g26]) p27 
(dLook (nat_lit 7) [] [(nat_lit 6)] (lkMove g27) p20 
(dLook (nat_lit 8) [] [(nat_lit 6)] (lkExtract (nat_lit 0) g20) p28 
(dLook (nat_lit 9) [] [(nat_lit 6)] (lkExtract (nat_lit 1) g20) p29 
(dLook (nat_lit 10) [] [(nat_lit 6)] (lkMove g28) p4 
(dLook (nat_lit 11) [] [(nat_lit 6)] (lkMove g29) p5 (dEnd [(nat_lit 21), (nat_lit 22), (nat_lit 23), (nat_lit 24), (nat_lit 25), (nat_lit 26), (nat_lit 27), (nat_lit 20), (nat_lit 28), (nat_lit 29), (nat_lit 4), (nat_lit 5)])))))))))))))) (kSeq (kSeq (oSet (xMove g5) p30 
(oSet (xLook (lkEq true .int g30 q8)) p31 
oEnd)) (kCond g31 (kSeq (oSet (xMove g5) p32 
(oSet (xMove g32) p2 
oEnd)) kRet) kSkip)) (kSeq (oSet (xMove g4) p34 
(oSet (xCall q192 [g34]) p35 
(oSet (xMove g35) p33 
(oSet (xLook (lkExtract (nat_lit 0) g33)) p36 
(oSet (xLook (lkExtract (nat_lit 1) g33)) p37 
(oSet (xTurn (tnAlloc q35)) p7 
(oSet (xMove g36) p6 
(oDo (xTurn (tnStore (nat_lit 2) g7 g37)) 
oEnd)))))))) (kSeq (kSeq (oSet (xLook (lkFieldAddr (nat_lit 0) g7)) p38 
(oSet (xLook (lkLoad1 g38)) p39 
(oSet (xLook (lkEq true .int g39 q8)) p40 
oEnd))) (kCond g40 (kSeq (oSet (xMove q73) p2 
oEnd) kRet) kSkip)) (kSeq (oSet (xMove g0) p41 
(oSet (xMove g6) p42 
(oSet (xNil g41) p43 
(oSet (xLook (lkFieldAddr (nat_lit 1) g43)) p44 
(oDo (xTurn (tnStore (nat_lit 1) g44 g42)) 
oEnd))))) (kSeq (oSet (xMove q8) p2 
oEnd) kRet))))))))))⟩
def q193 : OpdF := kC (.int .u8 (.ofNat (nat_lit 128)))
def q194 : OpdF := kC (.func (.func (nat_lit 127)) ⟨[]⟩ ⟨[]⟩)
def q195 : OpdF := kC (.func (.func (nat_lit 128)) ⟨[]⟩ ⟨[]⟩)
def q196 : OpdF := kC (.func (.func (nat_lit 129)) ⟨[]⟩ ⟨[]⟩)
def q197 : List Value := [(.bool false), (.bool false), (.bool false), (.bool false), (.bool false), (.bool false), (.bool false), (.bool false), (.bool false), (.bool false), (.bool false), (.bool false), (.bool false), (.bool false), (.bool false), (.bool false), (.bool false), (.bool false), (.bool false), (.bool false), (.bool false), (.bool false), (.bool false), (.bool false), (.bool false), (.bool false), (.bool false), (.bool false), (.bool false), (.bool false), (.bool false), (.bool false), (.bool false), (.bool false), (.bool false), (.bool false), (.bool false), (.bool false), (.bool false), (.bool false), (.bool false), (.bool false), (.bool false), (.bool false), (.bool false), (.bool false), (.bool false), (.bool false), (.bool false), (.bool false), (.bool false), (.bool false), (.bool false), (.bool false), (.bool false), (.bool false), (.bool false), (.bool false), (.bool false), (.bool false), (.bool false), (.bool false), (.bool false), (.bool false), (.bool false), (.bool false), (.bool false), (.bool false), (.bool false), (.bool false), (.bool false), (.bool false), (.bool false), (.bool false), (.bool false), (.bool false), (.bool false), (.bool false), (.bool false), (.bool false), (.bool false), (.bool false), (.bool false), (.bool false), (.bool false), (.bool false), (.bool false), (.bool false), (.bool false), (.bool false), (.bool false), (.bool false), (.bool false), (.bool false), (.bool false), (.bool false), (.bool false), (.bool false), (.bool false), (.bool false), (.bool false), (.bool false), (.bool false), (.bool false), (.bool false), (.bool false), (.bool false), (.bool false), (.bool false), (.bool false), (.bool false), (.bool false), (.bool false), (.bool false), (.bool false), (.bool false), (.bool false), (.bool false), (.bool false), (.bool false), (.bool false), (.bool false), (.bool false), (.bool false), (.bool false), (.bool false), (.bool false), (.bool false), (.bool false), (.bool false), (.bool false), (.bool false), (.bool false), (.bool false), (.bool false), (.bool false), (.bool false), (.bool false), (.bool false), (.bool false), (.bool false), (.bool false), (.bool false), (.bool false), (.bool false), (.bool false), (.bool false), (.bool false), (.bool false), (.bool false), (.bool false), (.bool false), (.bool false), (.bool false), (.bool false), (.bool false), (.bool false), (.bool false), (.bool false), (.bool false), (.bool false), (.bool false), (.bool false), (.bool false), (.bool false), (.bool false), (.bool false), (.bool false), (.bool false), (.bool false), (.bool false), (.bool false), (.bool false), (.bool false), (.bool false), (.bool false), (.bool false), (.bool false), (.bool false), (.bool false), (.bool false), (.bool false), (.bool false), (.bool false), (.bool false), (.bool false), (.bool false), (.bool false), (.bool false), (.bool false), (.bool false), (.bool false), (.bool false), (.bool false), (.bool false), (.bool false), (.bool false), (.bool false), (.bool false), (.bool false), (.bool false), (.bool false), (.bool false), (.bool false), (.bool false), (.bool false), (.bool false), (.bool false), (.bool false), (.bool false), (.bool false), (.bool false), (.bool false), (.bool false), (.bool false), (.bool false), (.bool false), (.bool false), (.bool false), (.bool false), (.bool false), (.bool false), (.bool false), (.bool false), (.bool false), (.bool false), (.bool false), (.bool false), (.bool false), (.bool false), (.bool false), (.bool false), (.bool false), (.bool false), (.bool false), (.bool false), (.bool false), (.bool false), (.bool false), (.bool false), (.bool false), (.bool false), (.bool false), (.bool false), (.bool false), (.bool false), (.bool false), (.bool false), (.bool false), (.bool false), (.bool false), (.bool false), (.bool false), (.bool false), (.bool false), (.bool false)]
def q198 : OpdF := kC (.func (.func (nat_lit 131)) ⟨[]⟩ ⟨[]⟩)
def q199 : OpdF := kC (.func (.func (nat_lit 130)) ⟨[]⟩ ⟨[]⟩)
def q200 : OpdF := kC (.func (.func (nat_lit 133)) ⟨[]⟩ ⟨[]⟩)
def q201 : OpdF := kC (.func (.func (nat_lit 132)) ⟨[]⟩ ⟨[]⟩)
noncomputable def k75 : KFun := ⟨[rTmp (nat_lit 4) g4], (kSeq (oSet (xMove q104) p4 
oEnd) (kSeq (kSeq (oSet (xMove g0) p7 
(oSet (xLook (lkEq false .str g7 q104)) p8 
(oSet (xMove g8) p9 
(oSetIf (wantF g9) (xMove g1) p10 
(oSetIf (wantF g9) (xLook (lkEq false .str g10 q104)) p11 
(oSet (xLook (lkPick g9 q3 g11)) p12 
oEnd)))))) (kCond g12 (kSeq (oSet (xMove g0) p13 
(oSet (xMove g13) p4 
oEnd)) kRet) kSkip)) (kSeq (kSeq (oSet (xMove g1) p14 
(oSet (xLook (lkLen .str g14)) p15 
(oSet (xLook (lkEq false .int g15 q12)) p16 
(oSet (xMove g16) p17 
(oSetIf (wantT g17) (xMove g1) p18 
(oSetIf (wantT g17) (xLook (lkIxStr g18 q8)) p19 
(oSetIf (wantT g17) (xLook (lkBin .lss g19 q193)) p20 
(oSet (xLook (lkPick g17 g20 q0)) p21 
oEnd)))))))) (kCond g21 (kSeq (kDraw 
(dLook (nat_lit 0) [] [] (lkMove g0) p22 
(dLook (nat_lit 1) [] [] (lkMove g1) p23 
(dLook (nat_lit 2) [] [] (lkIxStr g23 q8) p24 
(dTurn (nat_lit 3) [] [] true (xCall q195 [g22, g24]) p25 
(dLook (nat_lit 4) [] [] (lkMove g1) p26 
(dLook (nat_lit 5) [] [] (lkIxStr g26 q8) p27 
(dTurn (nat_lit 6) [] [(nat_lit 3)] true (xCall q194 [g25, g27]) p28 
(dLook (nat_lit 7) [] [(nat_lit 3), (nat_lit 6)] (lkMove g28) p4 (dEnd [(nat_lit 22), (nat_lit 23), (nat_lit 24), (nat_lit 25), (nat_lit 26), (nat_lit 27), (nat_lit 28), (nat_lit 4)])))))))))) kRet) kSkip)) (kSeq (kSeq (oSet (xMove g1) p30 
(oSet (xCall q196 [g30]) p31 
(oSet (xMove g31) p29 
(oSet (xLook (lkExtract (nat_lit 0) g29)) p32 
(oSet (xLook (lkExtract (nat_lit 1) g29)) p33 
(oSet (xTurn (tnAlloc q197)) p5 
(oDo (xTurn (tnStore (nat_lit 256) g5 g32)) 
(oSet (xMove g33) p6 
oEnd)))))))) (kSeq (oSet (xMove g6) p34 
oEnd) (kCond g34 (kSeq (oSet (xMove g0) p35 
(oSet (xCall q198 [g35, g5]) p36 
(oSet (xCall q199 [g36, g5]) p37 
(oSet (xMove g37) p4 
oEnd)))) kRet) kSkip))) (kSeq (oSet (xMove g0) p38 
(oSet (xMove g1) p39 
(oSet (xCall q200 [g38, g39]) p40 
(oSet (xMove g1) p41 
(oSet (xCall q201 [g40, g41]) p42 
(oSet (xMove g42) p4 
oEnd)))))) kRet)))))⟩
def q202 : OpdF := kC .nilIface
noncomputable def k76 : KFun := ⟨[], (kSeq (oSet xRecover p4 
oEnd) (kBlock (nat_lit 0) (kSeq (oSet (xLook (lkEq false .ifaceNil g4 q202)) p6 
oEnd) (kCond g6 (oSet (xMove g4) p1 
oEnd) (kSeq (oSet (xLook (lkAssertT (nat_lit 160) (.agg ⟨[(.int .i64 (.ofNat (nat_lit 0)))]⟩) true g4)) p7 
(oSet (xLook (lkExtract (nat_lit 1) g7)) p8 
(oSet (xLook (lkExtract (nat_lit 0) g7)) p9 
oEnd))) (kCond g8 (kSeq (oSet (xTurn (tnAlloc q108)) p2 
(oDo (xTurn (tnStore (nat_lit 1) g2 g9)) 
oEnd)) (oSet (xLook (lkFieldAddr (nat_lit 0) g2)) p10 
(oSet (xLook (lkLoad1 g10)) p11 
(oDo (xTurn (tnStore (nat_lit 1) g0 g11)) 
oEnd)))) (kSeq (oSet (xMove g4) p3 
oEnd) (oSet (xMove g3) p5 
(oDo (xPanic g5) 
oEnd)))))))))⟩
def q203 : OpdF := kC (.func (.func (nat_lit 134)) ⟨[]⟩ ⟨[]⟩)
def q204 : OpdF := kC (.func (.func (nat_lit 135)) ⟨[]⟩ ⟨[]⟩)
def q205 : List Value := [(.slice none (nat_lit 0) (nat_lit 0)), (.int .i64 (.ofNat (nat_lit 0)))]
def q206 : OpdF := kC (.func (.func (nat_lit 136)) ⟨[]⟩ ⟨[]⟩)
def q207 : CCode := (.region false [⟨none, (some (nat_lit 12)), (.alloc [(.int .i64 (.ofNat (nat_lit 0))), (.int .i64 (.ofNat (nat_lit 0))), (.slice none (nat_lit 0) (nat_lit 0)), (.slice none (nat_lit 0) (nat_lit 0)), (.slice none (nat_lit 0) (nat_lit 0))]), (nat_lit 0), [], []⟩,
⟨none, none, (.store (nat_lit 5) (.tmp (nat_lit 12)) (.tmp (nat_lit 32))), (nat_lit 1), [], []⟩])
def q208 : CCode := (.block (nat_lit 1) (.region false [⟨none, (some (nat_lit 33)), (.load1 (.tmp (nat_lit 10))), (nat_lit 0), [], []⟩,
⟨none, (some (nat_lit 34)), (.loadN (nat_lit 5) (.tmp (nat_lit 12))), (nat_lit 1), [], []⟩,
⟨none, (some (nat_lit 35)), (.buildSlice [(.int .i64 (.ofNat (nat_lit 0))), (.int .i64 (.ofNat (nat_lit 0))), (.slice none (nat_lit 0) (nat_lit 0)), (.slice none (nat_lit 0) (nat_lit 0)), (.slice none (nat_lit 0) (nat_lit 0))] [⟨(nat_lit 0), (nat_lit 5), (.tmp (nat_lit 34))⟩] (nat_lit 1)), (nat_lit 2), [], []⟩,
⟨none, (some (nat_lit 36)), (.append (nat_lit 5) (.tmp (nat_lit 33)) (.tmp (nat_lit 35))), (nat_lit 3), [], []⟩,
⟨none, none, (.store (nat_lit 1) (.tmp (nat_lit 10)) (.tmp (nat_lit 36))), (nat_lit 4), [], []⟩]))
noncomputable def k77 : KFun := ⟨[rTmp (nat_lit 4) g4, rTmp (nat_lit 5) g5, rTmp (nat_lit 6) g6], (kSeq (oSet (xMove q23) p4 
(oSet (xMove q23) p5 
(oSet (xMove q8) p6 
oEnd))) (kSeq (kSeq (oSet (xMove g1) p13 
(oSet (xCall q203 [g13]) p14 
(oSet (xMove g14) p7 
oEnd))) (kSeq (oSet (xMove g7) p15 
(oSet (xLook (lkEq true .int g15 q8)) p16 
oEnd)) (kCond g16 (kSeq (oSet (xMove g7) p17 
(oSet (xMove q23) p4 
(oSet (xMove q23) p5 
(oSet (xMove g17) p6 
oEnd)))) kRet) kSkip))) (kSeq (kSeq (oSet (xMove g0) p18 
(oSet (xCall q204 [g18]) p19 
(oSet (xMove g19) p8 
oEnd))) (kSeq (oSet (xMove g8) p20 
(oSet (xLook (lkEq true .int g20 q8)) p21 
oEnd)) (kCond g21 (kSeq (oSet (xMove g8) p22 
(oSet (xMove q23) p4 
(oSet (xMove q23) p5 
(oSet (xMove g22) p6 
oEnd)))) kRet) kSkip))) (kSeq (oSet (xMove g0) p23 
(oSet (xTurn (tnAppend (nat_lit 2) q23 g23)) p24 
(oSet (xLook (lkBuild q205 [((nat_lit 0), (nat_lit 1), g24)])) p25 
(oSet (xLook (lkBuild q205 [((nat_lit 0), (nat_lit 2), g25)])) p26 
(oSet (xTurn (tnBox g26)) p27 
(oSet (xMove g27) p9 
oEnd)))))) (kSeq (oSet (xTurn (tnAlloc q14)) p10 
oEnd) (kSeq (kSeq (oSet (xMove g9) p28 
(oSet (xMove g1) p29 
(oSet (xCall q206 [g28, g29]) p30 
oEnd))) (kBlock (nat_lit 0) (kRange g30 [(nat_lit 31), (nat_lit 32)] q207 q208))) (kSeq (kSeq (oSet (xMove g9) p37 
(oSet (xNil g37) p38 
(oSet (xLook (lkFieldAddr (nat_lit 0) g38)) p39 
(oSet (xLook (lkFieldAddr (nat_lit 1) g39)) p40 
(oSet (xLook (lkLoad1 g40)) p41 
(oSet (xLook (lkEq true .int g41 q8)) p42 
oEnd)))))) (kCond g42 (kSeq (kDraw 
(dLook (nat_lit 0) [] [] (lkMove g9) p43 
(dTurn (nat_lit 1) [] [] false (xNil g43) p44 
(dLook (nat_lit 2) [] [] (lkFieldAddr (nat_lit 0) g44) p45 
(dLook (nat_lit 3) [] [] (lkFieldAddr (nat_lit 1) g45) p46 
(dLook (nat_lit 4) [] [] (lkLoad1 g46) p47 
(dLook (nat_lit 5) [] [] (lkMove q23) p4 
(dLook (nat_lit 6) [] [] (lkMove q23) p5 
(dLook (nat_lit 7) [] [] (lkMove g47) p6 (dEnd [(nat_lit 43), (nat_lit 44), (nat_lit 45), (nat_lit 46), (nat_lit 47), (nat_lit 4), (nat_lit 5), (nat_lit 6)])))))))))) kRet) kSkip)) (kSeq (kDraw 
(dLook (nat_lit 0) [] [] (lkLoad1 g10) p48 
(dLook (nat_lit 1) [] [] (lkMove g9) p49 
(dTurn (nat_lit 2) [] [] false (xNil g49) p50 
(dLook (nat_lit 3) [] [] (lkFieldAddr (nat_lit 0) g50) p51 
(dLook (nat_lit 4) [] [] (lkFieldAddr (nat_lit 0) g51) p52 
(dLook (nat_lit 5) [] [] (lkLoad1 g52) p53 
(dLook (nat_lit 6) [] [] (lkMove g48) p4 
(dLook (nat_lit 7) [] [] (lkMove g53) p5 
(dLook (nat_lit 8) [] [] (lkMove q8) p6 (dEnd [(nat_lit 48), (nat_lit 49), (nat_lit 50), (nat_lit 51), (nat_lit 52), (nat_lit 53), (nat_lit 4), (nat_lit 5), (nat_lit 6)]))))))))))) kRet))))))))⟩
def q209 : OpdF := kC (.func (.func (nat_lit 137)) ⟨[]⟩ ⟨[]⟩)
def q210 : OpdF := kC (.func (.func (nat_lit 138)) ⟨[]⟩ ⟨[]⟩)
def q211 : OpdF := kC (.func (.func (nat_lit 139)) ⟨[]⟩ ⟨[]⟩)
def q212 : OpdF := kC (.func (.func (nat_lit 140)) ⟨[]⟩ ⟨[]⟩)
def q213 : OpdF := kC (.func (.func (nat_lit 141)) ⟨[]⟩ ⟨[]⟩)
def q214 : List Value := [(.int .i64 (.ofNat (nat_lit 0))), (.slice none (nat_lit 0) (nat_lit 0)), (.slice none (nat_lit 0) (nat_lit 0))]
def q215 : OpdF := kC (.func (.func (nat_lit 142)) ⟨[]⟩ ⟨[]⟩)
noncomputable def k78 : KFun := ⟨[rCellN (nat_lit 4) g4 (nat_lit 32), rTmp (nat_lit 5) g5], (kSeq (oSet (xTurn (tnAlloc q66)) p4 
(oSet (xMove q8) p5 
oEnd)) (kSeq (kSeq (oSet (xMove g0) p9 
(oSet (xCall q209 [g9]) p10 
oEnd)) (kCond g10 (kSeq (oSet (xLook (lkBuild q66 [])) p11 
(oDo (xTurn (tnStore (nat_lit 32) g4 g11)) 
(oSet (xMove q12) p5 
oEnd))) kRet) kSkip)) (kSeq (kSeq (oSet (xMove g1) p12 
(oSet (xLook (lkLen .sl g12)) p13 
(oSet (xLook (lkBin .gtr g13 q2)) p14 
(oSet (xMove g14) p15 
(oSetIf (wantF g15) (xMove g1) p16 
(oSetIf (wantF g15) (xCall q210 [g16, q211]) p17 
(oSet (xLook (lkPick g15 q3 g17)) p18 
oEnd))))))) (kCond g18 (kSeq (oSet (xLook (lkBuild q66 [])) p19 
(oDo (xTurn (tnStore (nat_lit 32) g4 g19)) 
(oSet (xMove q68) p5 
oEnd))) kRet) kSkip)) (kSeq (oSet (xTurn (tnBuildSlice [] [] (nat_lit 0))) p20 
(oSet (xMove g20) p6 
oEnd)) (kSeq (kSeq (oSet (xMove g1) p21 
(oSet (xCall q212 [g21, q8, q213]) p22 
(oSet (xLook (lkLen .sl g22)) p23 
(oSet (xMove q8) p24 
oEnd)))) (kBlock (nat_lit 0) (kLoop (kSeq (oSet (xLook (lkBin .lss g24 g23)) p25 
oEnd) (kSeq (kCond g25 kSkip (kExit (nat_lit 0))) (kSeq (kBlock (nat_lit 1) (kSeq (oSet (xLook (lkIxSl (nat_lit 1) g22 g24)) p26 
(oSet (xLook (lkLoad1 g26)) p27 
(oSet (xMove g27) p8 
oEnd))) (oSet (xMove g6) p28 
(oSet (xMove g8) p29 
(oSet (xLook (lkBuild q214 [((nat_lit 1), (nat_lit 1), g29)])) p30 
(oSet (xTurn (tnBuildSlice q214 [((nat_lit 0), (nat_lit 3), g30)] (nat_lit 1))) p31 
(oSet (xTurn (tnAppend (nat_lit 3) g28 g31)) p32 
(oSet (xMove g32) p6 
oEnd)))))))) (oSet (xLook (lkBin .add g24 q12)) p33 
(oSet (xMove g33) p24 
oEnd)))))))) (kSeq (kSeq (oSet (xMove g6) p34 
(oSet (xLook (lkLen .sl g34)) p35 
(oSet (xLook (lkEq false .int g35 q8)) p36 
oEnd))) (kCond g36 (oSet (xMove g6) p37 
(oSet (xLook (lkBuild q214 [])) p38 
(oSet (xTurn (tnBuildSlice q214 [((nat_lit 0), (nat_lit 3), g38)] (nat_lit 1))) p39 
(oSet (xTurn (tnAppend (nat_lit 3) g37 g39)) p40 
(oSet (xMove g40) p6 
oEnd))))) kSkip)) (kSeq (oSet (xMove g0) p41 
(oSet (xMove g6) p42 
(oSet (xCall q215 [g41, g42]) p43 
(oSet (xLook (lkExtract (nat_lit 0) g43)) p44 
(oSet (xLook (lkExtract (nat_lit 1) g43)) p45 
(oDo (xTurn (tnStore (nat_lit 32) g4 g44)) 
(oSet (xMove g45) p5 
oEnd))))))) kRet)))))))⟩
noncomputable def k79 : KFun := ⟨[rTmp (nat_lit 2) g2], (kSeq (oSet (xMove q23) p2 
oEnd) (kSeq (oSet (xMove q23) p3 
oEnd) (kSeq (kSeq (oSet (xMove g0) p8 
(oSet (xLook (lkLen .sl g8)) p9 
(oSet (xMove q8) p10 
oEnd))) (kBlock (nat_lit 0) (kLoop (kSeq (oSet (xLook (lkBin .lss g10 g9)) p11 
oEnd) (kSeq (kCond g11 kSkip (kExit (nat_lit 0))) (kSeq (kBlock (nat_lit 1) (kSeq (oSet (xLook (lkIxSl (nat_lit 1) g8 g10)) p12 
(oSet (xLook (lkLoad1 g12)) p13 
(oSet (xMove g13) p5 
oEnd))) (kSeq (oSet (xMove g5) p15 
(oSet (xCall q133 [g15]) p16 
(oSet (xMove g16) p14 
(oSet (xLook (lkExtract (nat_lit 0) g14)) p17 
(oSet (xLook (lkExtract (nat_lit 1) g14)) p18 
(oSet (xMove g17) p6 
(oSet (xMove g18) p7 
oEnd))))))) (kSeq (oSet (xMove g7) p19 
(oSet (xCall q110 [g19]) p20 
oEnd)) (oSet (xMove g3) p21 
(oSet (xMove g6) p22 
(oSet (xLook (lkBytesTo g22)) p23 
(oSet (xTurn (tnBuildSlice q17 [((nat_lit 0), (nat_lit 1), g23)] (nat_lit 1))) p24 
(oSet (xTurn (tnAppend (nat_lit 1) g21 g24)) p25 
(oSet (xMove g25) p3 
oEnd)))))))))) (oSet (xLook (lkBin .add g10 q12)) p26 
(oSet (xMove g26) p10 
oEnd)))))))) (kSeq (oSet (xMove g3) p27 
(oSet (xMove g27) p2 
oEnd)) kRet))))⟩
def q216 : OpdF := kC (.func (.func (nat_lit 143)) ⟨[]⟩ ⟨[]⟩)
def q217 : OpdF := kC (.func (.func (nat_lit 144)) ⟨[]⟩ ⟨[]⟩)
def q218 : OpdF := kC (.func (.func (nat_lit 145)) ⟨[]⟩ ⟨[]⟩)
noncomputable def k80 : KFun := ⟨[rCellN (nat_lit 4) g4 (nat_lit 32), rTmp (nat_lit 5) g5], (kSeq (oSet (xTurn (tnAlloc q66)) p4 
(oSet (xMove q8) p5 
oEnd)) (kSeq (kSeq (oSet (xMove g0) p8 
(oSet (xCall q216 [g8]) p9 
(oSet (xLook (lkUn .not g9)) p10 
oEnd))) (kCond g10 (kSeq (oSet (xLook (lkBuild q66 [])) p11 
(oDo (xTurn (tnStore (nat_lit 32) g4 g11)) 
(oSet (xMove q12) p5 
oEnd))) kRet) kSkip)) (kSeq (oSet (xMove g1) p13 
(oSet (xCall q217 [g13, q218]) p14 
(oSet (xMove g14) p12 
(oSet (xLook (lkExtract (nat_lit 0) g12)) p15 
(oSet (xLook (lkExtract (nat_lit 1) g12)) p16 
(oSet (xMove g15) p6 
(oSet (xMove g16) p7 
oEnd))))))) (kSeq (kSeq (oSet (xMove g7) p17 
(oSet (xLook (lkEq true .int g17 q8)) p18 
oEnd)) (kCond g18 (kSeq (oSet (xLook (lkBuild q66 [])) p19 
(oSet (xMove g7) p20 
(oDo (xTurn (tnStore (nat_lit 32) g4 g19)) 
(oSet (xMove g20) p5 
oEnd)))) kRet) kSkip)) (kSeq (oSet (xMove g0) p21 
(oSet (xMove g6) p22 
(oSet (xCall q113 [g21, g22]) p23 
(oSet (xLook (lkExtract (nat_lit 0) g23)) p24 
(oSet (xLook (lkExtract (nat_lit 1) g23)) p25 
(oDo (xTurn (tnStore (nat_lit 32) g4 g24)) 
(oSet (xMove g25) p5 
oEnd))))))) kRet)))))⟩
def q219 : OpdF := kC (.func (.func (nat_lit 146)) ⟨[]⟩ ⟨[]⟩)
def q220 : OpdF := kC (.func (.func (nat_lit 147)) ⟨[]⟩ ⟨[]⟩)
def q221 : CCode := (.region false [⟨none, (some (nat_lit 4)), (.move (.tmp (nat_lit 9))), (nat_lit 0), [], []⟩])
def q222 : CCode := (.block (nat_lit 1) (.seq (.seq (.region false [⟨none, (some (nat_lit 10)), (.move (.tmp (nat_lit 4))), (nat_lit 0), [], []⟩,
⟨none, (some (nat_lit 11)), (.load1 (.tmp (nat_lit 1))), (nat_lit 1), [], []⟩,
⟨none, (some (nat_lit 12)), (.bin .gtr (.tmp (nat_lit 10)) (.tmp (nat_lit 11))), (nat_lit 2), [], []⟩]) (.cond (.tmp (nat_lit 12)) (.exit (nat_lit 0)) .skip)) (.region false [⟨none, (some (nat_lit 13)), (.load1 (.tmp (nat_lit 3))), (nat_lit 0), [], []⟩,
⟨none, (some (nat_lit 14)), (.move (.tmp (nat_lit 4))), (nat_lit 1), [], []⟩,
⟨none, (some (nat_lit 15)), (.buildSlice [(.int .i64 (.ofNat (nat_lit 0)))] [⟨(nat_lit 0), (nat_lit 1), (.tmp (nat_lit 14))⟩] (nat_lit 1)), (nat_lit 2), [], []⟩,
⟨none, (some (nat_lit 16)), (.append (nat_lit 1) (.tmp (nat_lit 13)) (.tmp (nat_lit 15))), (nat_lit 3), [], []⟩,
⟨none, none, (.store (nat_lit 1) (.tmp (nat_lit 3)) (.tmp (nat_lit 16))), (nat_lit 4), [], []⟩])))
noncomputable def k81 : KFun := ⟨[rTmp (nat_lit 2) g2], (kSeq (oSet (xTurn (tnBox g0)) p1 
(oSet (xMove q23) p2 
oEnd)) (kSeq (kSeq (oSet (xLook (lkLoad1 g1)) p5 
(oSet (xCall q219 [g5]) p6 
(oSet (xLook (lkUn .not g6)) p7 
oEnd))) (kCond g7 (kSeq (oSet (xMove q23) p2 
oEnd) kRet) kSkip)) (kSeq (oSet (xTurn (tnAlloc q14)) p3 
oEnd) (kSeq (kSeq (oSet (xCall q220 []) p8 
oEnd) (kBlock (nat_lit 0) (kRange g8 [(nat_lit 9)] q221 q222))) (kSeq (oSet (xLook (lkLoad1 g3)) p17 
(oSet (xMove g17) p2 
oEnd)) kRet)))))⟩
def q223 : List Value := [(.int .i64 (.ofNat (nat_lit 0))), (.int .i64 (.ofNat (nat_lit 0))), (.slice none (nat_lit 0) (nat_lit 0)), (.slice none (nat_lit 0) (nat_lit 0)), (.slice none (nat_lit 0) (nat_lit 0))]
def q224 : OpdF := kC (.func (.func (nat_lit 148)) ⟨[]⟩ ⟨[]⟩)
def q225 : OpdF := kC (.func (.func (nat_lit 149)) ⟨[]⟩ ⟨[]⟩)
def q229 : OpdF := kC (.func (.func (nat_lit 152)) ⟨[]⟩ ⟨[]⟩)
def q230 : OpdF := kC (.func (.func (nat_lit 153)) ⟨[]⟩ ⟨[]⟩)
def q231 : OpdF := kC (.func (.func (nat_lit 154)) ⟨[]⟩ ⟨[]⟩)
def q232 : OpdF := kC (.func (.func (nat_lit 155)) ⟨[]⟩ ⟨[]⟩)
noncomputable def k84 : KFun := ⟨[rTmp (nat_lit 4) g4, rTmp (nat_lit 5) g5], (kSeq (oSet (xTurn (tnBox g1)) p3 
(oSet (xMove q23) p4 
(oSet (xMove q8) p5 
oEnd))) (kSeq (kSeq (oSet (xMove g0) p12 
(oSet (xCall q124 [g12]) p13 
(oSet (xMove g13) p11 
(oSet (xLook (lkExtract (nat_lit 0) g11)) p14 
(oSet (xLook (lkExtract (nat_lit 1) g11)) p15 
(oSet (xMove g14) p6 
(oSet (xMove g15) p7 
oEnd))))))) (kSeq (oSet (xMove g6) p16 
(oSet (xLook (lkEq true .int g16 q8)) p17 
oEnd)) (kCond g17 (kSeq (oSet (xMove g6) p18 
(oSet (xMove q23) p4 
(oSet (xMove g18) p5 
oEnd))) kRet) kSkip))) (kSeq (kSeq (oSet (xLook (lkLoadN (nat_lit 67) g3)) p19 
(oSet (xCall q230 [g19]) p20 
(oSet (xLook (lkUn .not g20)) p21 
oEnd))) (kCond g21 (kSeq (oSet (xMove q23) p4 
(oSet (xMove q9) p5 
oEnd)) kRet) kSkip)) (kSeq (oSet (xMove g0) p23 
(oSet (xLook (lkFieldAddr (nat_lit 0) g3)) p24 
(oSet (xLook (lkLoad1 g24)) p25 
(oSet (xCall q125 [g23, g25]) p26 
(oSet (xMove g26) p22 
(oSet (xLook (lkExtract (nat_lit 0) g22)) p27 
(oSet (xLook (lkExtract (nat_lit 1) g22)) p28 
(oSet (xMove g27) p8 
(oSet (xMove g28) p9 
oEnd))))))))) (kSeq (oSet (xMove g0) p29 
(oSet (xCall q231 [g29]) p30 
(oSet (xMove g30) p10 
oEnd))) (kSeq (kBlock (nat_lit 0) (kSeq (oSet (xMove g9) p38 
(oSet (xMove g38) p37 
oEnd)) (kCond g37 (oSet (xMove g10) p39 
(oSet (xMove g8) p40 
(oSet (xLook (lkLoadN (nat_lit 67) g3)) p41 
(oSet (xCall q126 [g41]) p42 
(oSet (xLook (lkIxSl (nat_lit 67) g39 g40)) p43 
(oDo (xTurn (tnStore (nat_lit 67) g43 g42)) 
oEnd)))))) (kSeq (oSet (xMove g0) p45 
(oSet (xLook (lkLen .sl g45)) p46 
(oSet (xLook (lkEq false .int g46 q40)) p47 
(oSet (xMove g47) p44 
oEnd)))) (kCond g44 (kSeq (oSet (xMove q23) p4 
(oSet (xMove q68) p5 
oEnd)) kRet) (oSet (xMove g10) p31 
(oSet (xMove g8) p32 
(oSet (xLook (lkLoadN (nat_lit 67) g3)) p33 
(oSet (xCall q126 [g33]) p34 
(oSet (xTurn (tnBuildSlice q30 [((nat_lit 0), (nat_lit 67), g34)] (nat_lit 1))) p35 
(oSet (xCall q232 [g31, g32, g35]) p36 
(oSet (xMove g36) p10 
oEnd)))))))))))) (kSeq (oSet (xMove g10) p48 
(oSet (xMove g48) p4 
(oSet (xMove q8) p5 
oEnd))) kRet)))))))⟩
def q233 : CCode := (.region false [⟨none, (some (nat_lit 5)), (.move (.tmp (nat_lit 7))), (nat_lit 0), [], []⟩])
def q234 : CCode := (.block (nat_lit 1) (.region false [⟨none, (some (nat_lit 8)), (.load1 (.tmp (nat_lit 2))), (nat_lit 0), [], []⟩,
⟨none, (some (nat_lit 9)), (.move (.tmp (nat_lit 5))), (nat_lit 1), [], []⟩,
⟨none, (some (nat_lit 10)), (.buildSlice [(.string ⟨⟨[]⟩⟩)] [⟨(nat_lit 0), (nat_lit 1), (.tmp (nat_lit 9))⟩] (nat_lit 1)), (nat_lit 2), [], []⟩,
⟨none, (some (nat_lit 11)), (.append (nat_lit 1) (.tmp (nat_lit 8)) (.tmp (nat_lit 10))), (nat_lit 3), [], []⟩,
⟨none, none, (.store (nat_lit 1) (.tmp (nat_lit 2)) (.tmp (nat_lit 11))), (nat_lit 4), [], []⟩]))
noncomputable def k85 : KFun := ⟨[rTmp (nat_lit 4) g4], (kSeq (oSet (xTurn (tnBox g0)) p2 
(oSet (xMove q23) p4 
oEnd)) (kSeq (kSeq (oSet (xMove g1) p6 
oEnd) (kBlock (nat_lit 0) (kRange g6 [(nat_lit 7)] q233 q234))) (kSeq (oSet (xLook (lkLoad1 g2)) p12 
(oSet (xMove g12) p4 
oEnd)) kRet)))⟩
def q235 : OpdF := kC (.int .i64 (.ofNat (nat_lit 12)))
def q236 : OpdF := kC (.func (.func (nat_lit 156)) ⟨[]⟩ ⟨[]⟩)
def q237 : OpdF := kC (.func (.func (nat_lit 157)) ⟨[]⟩ ⟨[]⟩)
def q238 : OpdF := kC (.func (.func (nat_lit 158)) ⟨[]⟩ ⟨[]⟩)
def q239 : OpdF := kC (.func (.func (nat_lit 159)) ⟨[]⟩ ⟨[]⟩)
def q240 : OpdF := kC (.func (.func (nat_lit 160)) ⟨[]⟩ ⟨[]⟩)
def q241 : OpdF := kC (.func (.func (nat_lit 161)) ⟨[]⟩ ⟨[]⟩)
noncomputable def k86d0 : KD := 
(dLook (nat_lit 14) [] [(nat_lit 12)] (lkPick g75 g86 q0) p87 (dEnd [(nat_lit 73), (nat_lit 74), (nat_lit 75), (nat_lit 76), (nat_lit 77), (nat_lit 78), (nat_lit 79), (nat_lit 80), (nat_lit 81), (nat_lit 82), (nat_lit 83), (nat_lit 84), (nat_lit 85), (nat_lit 86), (nat_lit 87)]))
def q242 : OpdF := kC (.func (.func (nat_lit 162)) ⟨[]⟩ ⟨[]⟩)
noncomputable def k86d1 : KD := 
(dIf [(nat_lit 12)] (wantT g75) p86 (dLook (nat_lit 13) [] [(nat_lit 12)] (lkUn .not g85) p86 k86d0) k86d0)
noncomputable def k86d2 : KD := 
(dIf [] (wantT g75) p85 (dTurn (nat_lit 12) [] [] true (xCall q242 [g80, g84]) p85 k86d1) k86d1)
noncomputable def k86d3 : KD := 
(dIf [] (wantT g75) p84 (dLook (nat_lit 11) [] [] (lkLoad1 g83) p84 k86d2) k86d2)
noncomputable def k86d4 : KD := 
(dIf [] (wantT g75) p83 (dLook (nat_lit 10) [] [] (lkIxSl (nat_lit 1) g81 g82) p83 k86d3) k86d3)
noncomputable def k86d5 : KD := 
(dIf [] (wantT g75) p82 (dLook (nat_lit 9) [] [] (lkMove g11) p82 k86d4) k86d4)
noncomputable def k86d6 : KD := 
(dIf [] (wantT g75) p81 (dLook (nat_lit 8) [] [] (lkMove g0) p81 k86d5) k86d5)
noncomputable def k86d7 : KD := 
(dIf [] (wantT g75) p80 (dLook (nat_lit 7) [] [] (lkLoad1 g79) p80 k86d6) k86d6)
noncomputable def k86d8 : KD := 
(dIf [] (wantT g75) p79 (dLook (nat_lit 6) [] [] (lkIxSl (nat_lit 1) g76 g78) p79 k86d7) k86d7)
noncomputable def k86d9 : KD := 
(dIf [] (wantT g75) p78 (dLook (nat_lit 5) [] [] (lkBin .sub g77 q12) p78 k86d8) k86d8)
noncomputable def k86d10 : KD := 
(dIf [] (wantT g75) p77 (dLook (nat_lit 4) [] [] (lkMove g1) p77 k86d9) k86d9)
def q243 : OpdF := kC (.func (.func (nat_lit 163)) ⟨[]⟩ ⟨[]⟩)
def q244 : OpdF := kC (.func (.func (nat_lit 164)) ⟨[]⟩ ⟨[]⟩)
noncomputable def k86 : KFun := ⟨[], (kSeq (oSet (xMove q3) p8 
oEnd) (kSeq (oSet (xMove q3) p9 
oEnd) (kBlock (nat_lit 0) (kLoop (kBlock (nat_lit 1) (kSeq (oSet (xMove g2) p19 
(oSet (xMove g1) p20 
(oSet (xLook (lkBin .sub g19 g20)) p21 
(oSet (xMove g21) p10 
oEnd)))) (kSeq (kSeq (oSet (xMove g10) p22 
(oSet (xLook (lkBin .leq g22 q235)) p23 
oEnd)) (kCond g23 (kSeq (oSet (xMove g0) p24 
(oSet (xMove g1) p25 
(oSet (xMove g2) p26 
(oSet (xCall q236 [g24, g25, g26]) p27 
oEnd)))) kRet) kSkip)) (kSeq (kSeq (oSet (xMove g3) p28 
(oSet (xLook (lkEq false .int g28 q8)) p29 
oEnd)) (kCond g29 (kSeq (oSet (xMove g0) p30 
(oSet (xMove g1) p31 
(oSet (xMove g2) p32 
(oSet (xCall q237 [g30, g31, g32]) p33 
oEnd)))) kRet) kSkip)) (kSeq (kSeq (oSet (xMove g8) p34 
(oSet (xLook (lkUn .not g34)) p35 
oEnd)) (kCond g35 (kSeq (oSet (xMove g0) p36 
(oSet (xMove g1) p37 
(oSet (xMove g2) p38 
(oSet (xCall q238 [g36, g37, g38]) p39 
oEnd)))) (oSet (xMove g3) p40 
(oSet (xLook (lkBin .sub g40 q12)) p41 
(oSet (xMove g41) p3 
oEnd)))) kSkip)) (kSeq (oSet (xMove g0) p43 
(oSet (xMove g1) p44 
(oSet (xMove g2) p45 
(oSet (xCall q239 [g43, g44, g45]) p46 
(oSet (xMove g46) p42 
(oSet (xLook (lkExtract (nat_lit 0) g42)) p47 
(oSet (xLook (lkExtract (nat_lit 1) g42)) p48 
(oSet (xMove g47) p11 
(oSet (xMove g48) p12 
oEnd))))))))) (kSeq (kSeq (oSet (xMove g12) p49 
(oSet (xLook (lkEq false .int g49 q9)) p50 
oEnd)) (kCond g50 (kSeq (oSet (xMove g0) p51 
(oSet (xMove g1) p52 
(oSet (xMove g2) p53 
(oSet (xCall q240 [g51, g52, g53]) p54 
oEnd)))) (kSeq (oSet (xMove g2) p55 
(oSet (xLook (lkBin .sub g55 q12)) p56 
(oSet (xMove g11) p57 
(oSet (xMove g1) p58 
(oSet (xLook (lkBin .sub g57 g58)) p59 
(oSet (xLook (lkBin .sub g56 g59)) p60 
(oSet (xMove g60) p11 
oEnd))))))) (oSet (xMove q12) p12 
oEnd))) kSkip)) (kSeq (kSeq (oSet (xMove g8) p61 
(oSet (xMove g61) p62 
(oSetIf (wantT g62) (xMove g9) p63 
(oSet (xLook (lkPick g62 g63 q0)) p64 
(oSet (xMove g64) p65 
(oSetIf (wantT g65) (xMove g12) p66 
(oSetIf (wantT g65) (xLook (lkEq false .int g66 q12)) p67 
(oSet (xLook (lkPick g65 g67 q0)) p68 
oEnd)))))))) (kCond g68 (kSeq (oSet (xMove g0) p69 
(oSet (xMove g1) p70 
(oSet (xMove g2) p71 
(oSet (xCall q241 [g69, g70, g71]) p72 
oEnd)))) (kCond g72 kRet kSkip)) kSkip)) (kSeq (kSeq (kDraw 
(dLook (nat_lit 0) [] [] (lkMove g1) p73 
(dLook (nat_lit 1) [] [] (lkBin .gtr g73 q8) p74 
(dLook (nat_lit 2) [] [] (lkMove g74) p75 
(dIf [] (wantT g75) p76 (dLook (nat_lit 3) [] [] (lkMove g0) p76 k86d10) k86d10))))) (kCond g87 (kSeq (oSet (xMove g0) p88 
(oSet (xMove g1) p89 
(oSet (xMove g2) p90 
(oSet (xMove g11) p91 
(oSet (xCall q243 [g88, g89, g90, g91]) p92 
(oSet (xMove g92) p13 
oEnd)))))) (kSeq (oSet (xMove g13) p93 
(oSet (xMove g93) p1 
oEnd)) (kExit (nat_lit 1)))) kSkip)) (kSeq (oSet (xMove g0) p95 
(oSet (xMove g1) p96 
(oSet (xMove g2) p97 
(oSet (xMove g11) p98 
(oSet (xCall q244 [g95, g96, g97, g98]) p99 
(oSet (xMove g99) p94 
(oSet (xLook (lkExtract (nat_lit 0) g94)) p100 
(oSet (xLook (lkExtract (nat_lit 1) g94)) p101 
(oSet (xMove g100) p14 
(oSet (xMove g101) p15 
oEnd)))))))))) (kSeq (oSet (xMove g15) p102 
(oSet (xMove g102) p9 
oEnd)) (kSeq (oSet (xMove g14) p103 
(oSet (xMove g1) p104 
(oSet (xLook (lkBin .sub g103 g104)) p105 
(oSet (xMove g2) p106 
(oSet (xMove g14) p107 
(oSet (xLook (lkBin .sub g106 g107)) p108 
(oSet (xMove g105) p16 
(oSet (xMove g108) p17 
oEnd)))))))) (kSeq (oSet (xMove g10) p109 
(oSet (xLook (lkBin .quo g109 q41)) p110 
(oSet (xMove g110) p18 
oEnd))) (kSeq (oSet (xMove g16) p111 
(oSet (xMove g17) p112 
(oSet (xLook (lkBin .lss g111 g112)) p113 
oEnd))) (kCond g113 (kSeq (oSet (xMove g16) p114 
(oSet (xMove g18) p115 
(oSet (xLook (lkBin .geq g114 g115)) p116 
(oSet (xMove g116) p8 
oEnd)))) (kSeq (oSet (xMove g0) p117 
(oSet (xMove g1) p118 
(oSet (xMove g14) p119 
(oSet (xMove g3) p120 
(oSet (xCall q123 [g117, g118, g119, g120]) p121 
oEnd))))) (oSet (xMove g14) p122 
(oSet (xLook (lkBin .add g122 q12)) p123 
(oSet (xMove g123) p1 
oEnd))))) (kSeq (oSet (xMove g17) p124 
(oSet (xMove g18) p125 
(oSet (xLook (lkBin .geq g124 g125)) p126 
(oSet (xMove g126) p8 
oEnd)))) (kSeq (oSet (xMove g0) p127 
(oSet (xMove g14) p128 
(oSet (xLook (lkBin .add g128 q12)) p129 
(oSet (xMove g2) p130 
(oSet (xMove g3) p131 
(oSet (xCall q123 [g127, g129, g130, g131]) p132 
oEnd)))))) (oSet (xMove g14) p133 
(oSet (xMove g133) p2 
oEnd)))))))))))))))))))))))⟩
def q245 : OpdF := kC (.func (.func (nat_lit 165)) ⟨[]⟩ ⟨[]⟩)
def q246 : OpdF := kC (.func (.func (nat_lit 166)) ⟨[]⟩ ⟨[]⟩)
noncomputable def k87 : KFun := ⟨[rTmp (nat_lit 2) g2], (kSeq (oSet (xMove q8) p2 
oEnd) (kSeq (kCond q0 (kSeq (oSet (xMove g0) p3 
(oSet (xLook (lkIntTo .u32 g3)) p4 
(oSet (xCall q245 [g4]) p5 
(oSet (xMove g5) p2 
oEnd)))) kRet) kSkip) (kSeq (oSet (xMove g0) p6 
(oSet (xCall q246 [g6]) p7 
(oSet (xMove g7) p2 
oEnd))) kRet)))⟩
noncomputable def k88d0 : KD := 
(dLook (nat_lit 17) [] [(nat_lit 1)] (lkPick g19 q3 g32) p33 (dEnd [(nat_lit 16), (nat_lit 17), (nat_lit 18), (nat_lit 19), (nat_lit 20), (nat_lit 21), (nat_lit 22), (nat_lit 23), (nat_lit 24), (nat_lit 25), (nat_lit 26), (nat_lit 27), (nat_lit 28), (nat_lit 29), (nat_lit 30), (nat_lit 31), (nat_lit 32), (nat_lit 33)]))
noncomputable def k88d1 : KD := 
(dIf [(nat_lit 1)] (wantF g19) p32 (dLook (nat_lit 16) [] [(nat_lit 1)] (lkPick g22 g31 q0) p32 k88d0) k88d0)
noncomputable def k88d2 : KD := 
(dIf [(nat_lit 1)] (wantT g22) p31 (dLook (nat_lit 15) [] [(nat_lit 1)] (lkBin .geq g28 g30) p31 k88d1) k88d1)
noncomputable def k88d3 : KD := 
(dIf [(nat_lit 1)] (wantT g22) p30 (dLook (nat_lit 14) [] [(nat_lit 1)] (lkLoad1 g29) p30 k88d2) k88d2)
noncomputable def k88d4 : KD := 
(dIf [(nat_lit 1)] (wantT g22) p29 (dLook (nat_lit 13) [] [(nat_lit 1)] (lkFieldAddr (nat_lit 0) g5) p29 k88d3) k88d3)
noncomputable def k88d5 : KD := 
(dIf [(nat_lit 1)] (wantT g22) p28 (dLook (nat_lit 12) [] [(nat_lit 1)] (lkLoad1 g27) p28 k88d4) k88d4)
noncomputable def k88d6 : KD := 
(dIf [(nat_lit 1)] (wantT g22) p27 (dLook (nat_lit 11) [] [(nat_lit 1)] (lkFieldAddr (nat_lit 0) g26) p27 k88d5) k88d5)
noncomputable def k88d7 : KD := 
(dIf [(nat_lit 1)] (wantT g22) p26 (dLook (nat_lit 10) [] [(nat_lit 1)] (lkIxSl (nat_lit 67) g23 g25) p26 k88d6) k88d6)
noncomputable def k88d8 : KD := 
(dIf [(nat_lit 1)] (wantT g22) p25 (dLook (nat_lit 9) [] [(nat_lit 1)] (lkBin .sub g24 q12) p25 k88d7) k88d7)
noncomputable def k88d9 : KD := 
(dIf [(nat_lit 1)] (wantT g22) p24 (dLook (nat_lit 8) [] [(nat_lit 1)] (lkMove g4) p24 k88d8) k88d8)
noncomputable def k88d10 : KD := 
(dIf [(nat_lit 1)] (wantT g22) p23 (dLook (nat_lit 7) [] [(nat_lit 1)] (lkMove g0) p23 k88d9) k88d9)
noncomputable def k88d11 : KD := 
(dIf [(nat_lit 1)] (wantF g19) p22 (dLook (nat_lit 6) [] [(nat_lit 1)] (lkMove g21) p22 k88d10) k88d10)
noncomputable def k88d12 : KD := 
(dIf [(nat_lit 1)] (wantF g19) p21 (dLook (nat_lit 5) [] [(nat_lit 1)] (lkBin .gtr g20 q8) p21 k88d11) k88d11)
noncomputable def k88 : KFun := ⟨[rTmp (nat_lit 2) g2, rTmp (nat_lit 3) g3], (kSeq (oSet (xMove q8) p2 
(oSet (xMove q8) p3 
oEnd)) (kSeq (kSeq (oSet (xMove g0) p6 
(oSet (xLook (lkLen .sl g6)) p7 
(oSet (xLook (lkBin .gtr g7 q40)) p8 
oEnd))) (kCond g8 (kSeq (oSet (xMove q68) p2 
(oSet (xMove q40) p3 
oEnd)) kRet) kSkip)) (kSeq (kSeq (oSet (xMove g0) p9 
(oSet (xLook (lkLen .sl g9)) p10 
(oSet (xMove q8) p11 
oEnd))) (kBlock (nat_lit 0) (kLoop (kSeq (oSet (xLook (lkBin .lss g11 g10)) p12 
oEnd) (kSeq (kCond g12 kSkip (kExit (nat_lit 0))) (kSeq (kBlock (nat_lit 1) (kSeq (oSet (xMove g11) p13 
(oSet (xLook (lkIxSl (nat_lit 67) g9 g11)) p14 
(oSet (xLook (lkLoadN (nat_lit 67) g14)) p15 
(oSet (xTurn (tnAlloc q30)) p5 
(oSet (xMove g13) p4 
(oDo (xTurn (tnStore (nat_lit 67) g5 g15)) 
oEnd)))))) (kSeq (kDraw 
(dLook (nat_lit 0) [] [] (lkLoadN (nat_lit 67) g5) p16 
(dTurn (nat_lit 1) [] [] true (xCall q230 [g16]) p17 
(dLook (nat_lit 2) [] [(nat_lit 1)] (lkUn .not g17) p18 
(dLook (nat_lit 3) [] [(nat_lit 1)] (lkMove g18) p19 
(dIf [(nat_lit 1)] (wantF g19) p20 (dLook (nat_lit 4) [] [(nat_lit 1)] (lkMove g4) p20 k88d12) k88d12)))))) (kCond g33 (kSeq (oSet (xMove g4) p34 
(oSet (xMove q9) p2 
(oSet (xMove g34) p3 
oEnd))) kRet) kSkip)))) (oSet (xLook (lkBin .add g11 q12)) p35 
(oSet (xMove g35) p11 
oEnd)))))))) (kSeq (oSet (xMove q8) p2 
(oSet (xMove q8) p3 
oEnd)) kRet))))⟩
def q247 : OpdF := kC (.func (.func (nat_lit 167)) ⟨[]⟩ ⟨[]⟩)
def q248 : OpdF := kC (.func (.func (nat_lit 168)) ⟨[]⟩ ⟨[]⟩)
noncomputable def k89 : KFun := ⟨[rTmp (nat_lit 4) g4, rTmp (nat_lit 5) g5], (kSeq (oSet (xMove q8) p4 
(oSet (xMove q0) p5 
oEnd)) (kSeq (oSet (xMove g0) p6 
(oSet (xMove g1) p7 
(oSet (xCall q247 [g6, g7, q248]) p8 
(oSet (xLook (lkExtract (nat_lit 0) g8)) p9 
(oSet (xLook (lkExtract (nat_lit 1) g8)) p10 
(oSet (xMove g9) p4 
(oSet (xMove g10) p5 
oEnd))))))) kRet))⟩
noncomputable def k90 : KFun := ⟨[rCellN (nat_lit 2) g2 (nat_lit 67)], (kSeq (oSet (xTurn (tnBox g0)) p1 
(oSet (xTurn (tnAlloc q30)) p2 
oEnd)) (kSeq (oSet (xLook (lkFieldAddr (nat_lit 66) g1)) p3 
(oSet (xLook (lkLoad1 g3)) p4 
(oSet (xCall q83 [g4]) p5 
(oSet (xLook (lkFieldAddr (nat_lit 66) g1)) p6 
(oDo (xTurn (tnStore (nat_lit 1) g6 g5)) 
oEnd))))) (kSeq (oSet (xLook (lkLoadN (nat_lit 67) g1)) p7 
(oDo (xTurn (tnStore (nat_lit 67) g2 g7)) 
oEnd)) kRet)))⟩
def q249 : OpdF := kC (.func (.func (nat_lit 170)) ⟨[]⟩ ⟨[]⟩)
noncomputable def k91 : KFun := ⟨[rTmp (nat_lit 4) g4, rTmp (nat_lit 5) g5], (kSeq (oSet (xTurn (tnBox g1)) p3 
(oSet (xMove q23) p4 
(oSet (xMove q8) p5 
oEnd))) (kSeq (oSet (xMove g0) p9 
(oSet (xLook (lkLoadN (nat_lit 32) g3)) p10 
(oSet (xCall q249 [g9, g10]) p11 
(oSet (xMove g11) p8 
(oSet (xLook (lkExtract (nat_lit 0) g8)) p12 
(oSet (xLook (lkExtract (nat_lit 1) g8)) p13 
(oSet (xMove g12) p6 
(oSet (xMove g13) p7 
oEnd)))))))) (kSeq (kDraw 
(dLook (nat_lit 0) [] [] (lkMove g6) p14 
(dLook (nat_lit 1) [] [] (lkMove g7) p15 
(dTurn (nat_lit 2) [] [] false (xNil g15) p16 
(dLook (nat_lit 3) [] [] (lkFieldAddr (nat_lit 1) g16) p17 
(dLook (nat_lit 4) [] [] (lkLoad1 g17) p18 
(dLook (nat_lit 5) [] [] (lkMove g14) p4 
(dLook (nat_lit 6) [] [] (lkMove g18) p5 (dEnd [(nat_lit 14), (nat_lit 15), (nat_lit 16), (nat_lit 17), (nat_lit 18), (nat_lit 4), (nat_lit 5)]))))))))) kRet)))⟩
def q250 : OpdF := kC (.int .i64 (.ofNat (nat_lit 60)))
def q251 : List Value := [(.int .i64 (.ofNat (nat_lit 0))), (.int .i64 (.ofNat (nat_lit 0))), (.int .i64 (.ofNat (nat_lit 0))), (.int .i64 (.ofNat (nat_lit 0))), (.int .i64 (.ofNat (nat_lit 0))), (.int .i64 (.ofNat (nat_lit 0))), (.int .i64 (.ofNat (nat_lit 0))), (.int .i64 (.ofNat (nat_lit 0))), (.int .i64 (.ofNat (nat_lit 0))), (.int .i64 (.ofNat (nat_lit 0))), (.int .i64 (.ofNat (nat_lit 0))), (.int .i64 (.ofNat (nat_lit 0))), (.int .i64 (.ofNat (nat_lit 0))), (.int .i64 (.ofNat (nat_lit 0))), (.int .i64 (.ofNat (nat_lit 0))), (.int .i64 (.ofNat (nat_lit 0))), (.int .i64 (.ofNat (nat_lit 0))), (.int .i64 (.ofNat (nat_lit 0))), (.int .i64 (.ofNat (nat_lit 0))), (.int .i64 (.ofNat (nat_lit 0))), (.int .i64 (.ofNat (nat_lit 0))), (.int .i64 (.ofNat (nat_lit 0))), (.int .i64 (.ofNat (nat_lit 0))), (.int .i64 (.ofNat (nat_lit 0))), (.int .i64 (.ofNat (nat_lit 0))), (.int .i64 (.ofNat (nat_lit 0))), (.int .i64 (.ofNat (nat_lit 0))), (.int .i64 (.ofNat (nat_lit 0))), (.int .i64 (.ofNat (nat_lit 0))), (.int .i64 (.ofNat (nat_lit 0))), (.int .i64 (.ofNat (nat_lit 0))), (.int .i64 (.ofNat (nat_lit 0))), (.int .i64 (.ofNat (nat_lit 0))), (.int .i64 (.ofNat (nat_lit 0))), (.int .i64 (.ofNat (nat_lit 0))), (.int .i64 (.ofNat (nat_lit 0))), (.int .i64 (.ofNat (nat_lit 0))), (.int .i64 (.ofNat (nat_lit 0))), (.int .i64 (.ofNat (nat_lit 0))), (.int .i64 (.ofNat (nat_lit 0))), (.int .i64 (.ofNat (nat_lit 0))), (.int .i64 (.ofNat (nat_lit 0))), (.int .i64 (.ofNat (nat_lit 0))), (.int .i64 (.ofNat (nat_lit 0))), (.int .i64 (.ofNat (nat_lit 0))), (.int .i64 (.ofNat (nat_lit 0))), (.int .i64 (.ofNat (nat_lit 0))), (.int .i64 (.ofNat (nat_lit 0))), (.int .i64 (.ofNat (nat_lit 0))), (.int .i64 (.ofNat (nat_lit 0))), (.int .i64 (.ofNat (nat_lit 0))), (.int .i64 (.ofNat (nat_lit 0))), (.int .i64 (.ofNat (nat_lit 0))), (.int .i64 (.ofNat (nat_lit 0))), (.int .i64 (.ofNat (nat_lit 0))), (.int .i64 (.ofNat (nat_lit 0))), (.int .i64 (.ofNat (nat_lit 0))), (.int .i64 (.ofNat (nat_lit 0))), (.int .i64 (.ofNat (nat_lit 0))), (.int .i64 (.ofNat (nat_lit 0)))]
def q252 : OpdF := kC (.func (.func (nat_lit 171)) ⟨[]⟩ ⟨[]⟩)
def q253 : OpdF := kC (.func (.func (nat_lit 172)) ⟨[]⟩ ⟨[]⟩)
noncomputable def k92 : KFun := ⟨[rTmp (nat_lit 2) g2, rCellN (nat_lit 3) g3 (nat_lit 2)], (kSeq (oSet (xMove q23) p2 
(oSet (xTurn (tnAlloc q35)) p3 
oEnd)) (kSeq (kSeq (oSet (xMove g0) p15 
(oSet (xLook (lkLen .sl g15)) p16 
(oSet (xLook (lkBin .gtr g16 q156)) p17 
oEnd))) (kCond g17 (kSeq (oSet (xLook (lkBuild q35 [((nat_lit 0), (nat_lit 1), q68), ((nat_lit 1), (nat_lit 1), q156)])) p18 
(oSet (xMove q23) p2 
(oDo (xTurn (tnStore (nat_lit 2) g3 g18)) 
oEnd))) kRet) kSkip)) (kSeq (oSet (xMove g0) p19 
(oSet (xCall q74 [g19]) p20 
(oSet (xMove g20) p4 
oEnd))) (kSeq (oSet (xMove g4) p21 
(oSet (xCall q153 [g21, q250]) p22 
(oSet (xMove g22) p5 
oEnd))) (kSeq (kSeq (oSet (xMove g4) p23 
(oSet (xCall q158 [g23]) p24 
(oSet (xTurn (tnAlloc q35)) p6 
(oDo (xTurn (tnStore (nat_lit 2) g6 g24)) 
oEnd)))) (kSeq (oSet (xLook (lkFieldAddr (nat_lit 0) g6)) p25 
(oSet (xLook (lkLoad1 g25)) p26 
(oSet (xLook (lkEq true .int g26 q8)) p27 
oEnd))) (kCond g27 (kSeq (kDraw 
(dLook (nat_lit 0) [] [] (lkLoadN (nat_lit 2) g6) p28 
(dLook (nat_lit 1) [] [] (lkMove q23) p2 
(dTurn (nat_lit 2) [] [] true (xTurn (tnStore (nat_lit 2) g3 g28)) noDst (dEnd [(nat_lit 28), (nat_lit 2)]))))) kRet) kSkip))) (kSeq (oSet (xMove g4) p29 
(oSet (xCall q154 [g29]) p30 
(oSet (xMove g30) p7 
oEnd))) (kSeq (oSet (xTurn (tnAlloc q251)) p8 
oEnd) (kSeq (oSet (xLook (lkSliceArr (nat_lit 60) (nat_lit 1) g8 none (some q8) none)) p31 
(oSet (xMove g31) p9 
oEnd)) (kSeq (oSet (xMove q23) p10 
oEnd) (kSeq (kSeq (oSet (xMove g5) p32 
(oSet (xMove q8) p33 
oEnd)) (kBlock (nat_lit 0) (kLoop (kSeq (oSet (xLook (lkBin .lss g33 g32)) p34 
oEnd) (kSeq (kCond g34 kSkip (kExit (nat_lit 0))) (kSeq (kBlock (nat_lit 1) (kSeq (oSet (xMove g0) p36 
(oSet (xMove g7) p37 
(oSet (xCall q252 [g36, g37]) p38 
(oSet (xMove g38) p35 
(oSet (xLook (lkExtract (nat_lit 0) g35)) p39 
(oSet (xLook (lkExtract (nat_lit 1) g35)) p40 
(oSet (xLook (lkExtract (nat_lit 2) g35)) p41 
(oSet (xTurn (tnAlloc q144)) p11 
(oSet (xTurn (tnAlloc q35)) p13 
(oDo (xTurn (tnStore (nat_lit 6) g11 g39)) 
(oSet (xMove g40) p12 
(oDo (xTurn (tnStore (nat_lit 2) g13 g41)) 
oEnd)))))))))))) (kSeq (kSeq (oSet (xLook (lkFieldAddr (nat_lit 0) g13)) p42 
(oSet (xLook (lkLoad1 g42)) p43 
(oSet (xLook (lkEq true .int g43 q8)) p44 
oEnd))) (kCond g44 (kSeq (kDraw 
(dLook (nat_lit 0) [] [] (lkLoadN (nat_lit 2) g13) p45 
(dLook (nat_lit 1) [] [] (lkMove q23) p2 
(dTurn (nat_lit 2) [] [] true (xTurn (tnStore (nat_lit 2) g3 g45)) noDst (dEnd [(nat_lit 45), (nat_lit 2)]))))) kRet) kSkip)) (kSeq (oSet (xMove g9) p46 
(oSet (xMove g7) p47 
(oSet (xTurn (tnBuildSlice q108 [((nat_lit 0), (nat_lit 1), g47)] (nat_lit 1))) p48 
(oSet (xTurn (tnAppend (nat_lit 1) g46 g48)) p49 
(oSet (xMove g49) p9 
oEnd))))) (oSet (xMove g10) p50 
(oSet (xLook (lkLoadN (nat_lit 6) g11)) p51 
(oSet (xTurn (tnBuildSlice q144 [((nat_lit 0), (nat_lit 6), g51)] (nat_lit 1))) p52 
(oSet (xTurn (tnAppend (nat_lit 6) g50 g52)) p53 
(oSet (xMove g12) p54 
(oSet (xMove g53) p10 
(oSet (xMove g54) p7 
oEnd))))))))))) (oSet (xLook (lkBin .add g33 q12)) p55 
(oSet (xMove g55) p33 
oEnd)))))))) (kSeq (kSeq (oSet (xMove g7) p56 
(oSet (xMove g0) p57 
(oSet (xLook (lkLen .sl g57)) p58 
(oSet (xLook (lkBin .lss g56 g58)) p59 
oEnd)))) (kCond g59 (kSeq (oSet (xMove g7) p60 
(oSet (xLook (lkBuild q35 [((nat_lit 0), (nat_lit 1), q70), ((nat_lit 1), (nat_lit 1), g60)])) p61 
(oSet (xMove q23) p2 
(oDo (xTurn (tnStore (nat_lit 2) g3 g61)) 
oEnd)))) kRet) kSkip)) (kSeq (kSeq (oSet (xMove g10) p62 
(oSet (xCall q253 [g62]) p63 
(oSet (xMove g63) p14 
oEnd))) (kSeq (oSet (xMove g14) p64 
(oSet (xLook (lkBin .geq g64 q8)) p65 
oEnd)) (kCond g65 (kSeq (kDraw 
(dLook (nat_lit 0) [] [] (lkMove g9) p66 
(dLook (nat_lit 1) [] [] (lkMove g14) p67 
(dLook (nat_lit 2) [] [] (lkIxSl (nat_lit 1) g66 g67) p68 
(dLook (nat_lit 3) [] [] (lkLoad1 g68) p69 
(dLook (nat_lit 4) [] [] (lkBuild q35 [((nat_lit 0), (nat_lit 1), q86), ((nat_lit 1), (nat_lit 1), g69)]) p70 
(dLook (nat_lit 5) [] [] (lkMove q23) p2 
(dTurn (nat_lit 6) [] [] true (xTurn (tnStore (nat_lit 2) g3 g70)) noDst (dEnd [(nat_lit 66), (nat_lit 67), (nat_lit 68), (nat_lit 69), (nat_lit 70), (nat_lit 2)]))))))))) kRet) kSkip))) (kSeq (oSet (xMove g10) p71 
(oSet (xLook (lkBuild q35 [])) p72 
(oSet (xMove g71) p2 
(oDo (xTurn (tnStore (nat_lit 2) g3 g72)) 
oEnd)))) kRet)))))))))))))⟩
def q254 : OpdF := kC (.func (.func (nat_lit 173)) ⟨[]⟩ ⟨[]⟩)
def q255 : OpdF := kC (.func (.func (nat_lit 174)) ⟨[]⟩ ⟨[]⟩)
def q256 : OpdF := kC (.func (.func (nat_lit 175)) ⟨[]⟩ ⟨[]⟩)
noncomputable def k93 : KFun := ⟨[rTmp (nat_lit 2) g2, rTmp (nat_lit 3) g3], (kSeq (oSet (xMove q8) p2 
(oSet (xMove q8) p3 
oEnd)) (kSeq (kSeq (oSet (xMove g0) p10 
(oSet (xLook (lkLen .sl g10)) p11 
(oSet (xLook (lkBin .gtr g11 q250)) p12 
oEnd))) (kCond g12 (kSeq (oSet (xMove q68) p2 
(oSet (xMove q250) p3 
oEnd)) kRet) kSkip)) (kSeq (kSeq (oSet (xMove g0) p13 
(oSet (xLook (lkLen .sl g13)) p14 
(oSet (xMove q8) p15 
oEnd))) (kBlock (nat_lit 0) (kLoop (kSeq (oSet (xLook (lkBin .lss g15 g14)) p16 
oEnd) (kSeq (kCond g16 kSkip (kExit (nat_lit 0))) (kSeq (kBlock (nat_lit 1) (kSeq (oSet (xMove g15) p17 
(oSet (xLook (lkIxSl (nat_lit 6) g13 g15)) p18 
(oSet (xLook (lkLoadN (nat_lit 6) g18)) p19 
(oSet (xTurn (tnAlloc q144)) p5 
(oSet (xMove g17) p4 
(oDo (xTurn (tnStore (nat_lit 6) g5 g19)) 
oEnd)))))) (kSeq (oSet (xLook (lkLoadN (nat_lit 6) g5)) p20 
(oSet (xCall q254 [g20]) p21 
(oSet (xLook (lkEq true .int g21 q8)) p22 
oEnd))) (kCond g22 (kSeq (oSet (xMove g4) p23 
(oSet (xMove q9) p2 
(oSet (xMove g23) p3 
oEnd))) kRet) kSkip)))) (oSet (xLook (lkBin .add g15 q12)) p24 
(oSet (xMove g24) p15 
oEnd)))))))) (kSeq (kSeq (oSet (xMove g0) p25 
(oSet (xCall q253 [g25]) p26 
(oSet (xMove g26) p6 
oEnd))) (kSeq (oSet (xMove g6) p27 
(oSet (xLook (lkBin .geq g27 q8)) p28 
oEnd)) (kCond g28 (kSeq (oSet (xMove g6) p29 
(oSet (xMove q86) p2 
(oSet (xMove g29) p3 
oEnd))) kRet) kSkip))) (kSeq (oSet (xMove g0) p30 
(oSet (xLook (lkLen .sl g30)) p31 
(oSet (xCall q255 [g31]) p32 
(oSet (xMove g32) p7 
oEnd)))) (kSeq (kSeq (oSet (xMove g0) p33 
(oSet (xLook (lkLen .sl g33)) p34 
(oSet (xMove q8) p35 
oEnd))) (kBlock (nat_lit 2) (kLoop (kSeq (oSet (xLook (lkBin .lss g35 g34)) p36 
oEnd) (kSeq (kCond g36 kSkip (kExit (nat_lit 2))) (kSeq (kBlock (nat_lit 3) (kSeq (oSet (xMove g35) p37 
(oSet (xLook (lkIxSl (nat_lit 6) g33 g35)) p38 
(oSet (xLook (lkLoadN (nat_lit 6) g38)) p39 
(oSet (xTurn (tnAlloc q144)) p9 
(oSet (xMove g37) p8 
(oDo (xTurn (tnStore (nat_lit 6) g9 g39)) 
oEnd)))))) (kSeq (oSet (xMove g7) p40 
(oSet (xLook (lkLoadN (nat_lit 6) g9)) p41 
(oSet (xCall q256 [g41]) p42 
(oSet (xLook (lkBin .add g40 g42)) p43 
(oSet (xMove g43) p7 
oEnd))))) (kSeq (oSet (xMove g7) p44 
(oSet (xLook (lkBin .gtr g44 q156)) p45 
oEnd)) (kCond g45 (kSeq (oSet (xMove g8) p46 
(oSet (xMove q68) p2 
(oSet (xMove g46) p3 
oEnd))) kRet) kSkip))))) (oSet (xLook (lkBin .add g35 q12)) p47 
(oSet (xMove g47) p35 
oEnd)))))))) (kSeq (oSet (xMove q8) p2 
(oSet (xMove q8) p3 
oEnd)) kRet)))))))⟩
noncomputable def k94 : KFun := ⟨[rTmp (nat_lit 2) g2], (kSeq (oSet (xTurn (tnBox g0)) p1 
(oSet (xMove q53) p2 
oEnd)) (kSeq (oSet (xLook (lkMkFunc (.func (nat_lit 176)) [] [g1])) p3 
(oSet (xMove g3) p2 
oEnd)) kRet))⟩
noncomputable def k95 : KFun := ⟨[rTmp (nat_lit 0) g0], (kSeq (oSet (xMove q5) p0 
oEnd) (kSeq (oSet (xLook (lkBuild q151 [((nat_lit 0), (nat_lit 1), q3)])) p1 
(oSet (xLook (lkBuild q151 [((nat_lit 0), (nat_lit 4), g1)])) p2 
(oSet (xTurn (tnBox g2)) p3 
(oSet (xMove g3) p0 
oEnd)))) kRet))⟩
noncomputable def k96 : KFun := ⟨[rTmp (nat_lit 2) g2, rTmp (nat_lit 3) g3], (kSeq (oSet (xMove q23) p2 
(oSet (xMove q8) p3 
oEnd)) (kSeq (kBlock (nat_lit 0) (kSeq (oSet (xMove g0) p5 
(oSet (xCall q139 [g5]) p6 
(oSet (xMove g6) p4 
oEnd))) (kCond g4 (kSeq (oSet (xMove q23) p2 
(oSet (xMove q12) p3 
oEnd)) kRet) (kSeq (oSet (xMove g0) p8 
(oSet (xNil g8) p9 
(oSet (xLook (lkFieldAddr (nat_lit 0) g9)) p10 
(oSet (xLook (lkFieldAddr (nat_lit 2) g10)) p11 
(oSet (xLook (lkFieldAddr (nat_lit 0) g11)) p12 
(oSet (xLook (lkLoad1 g12)) p13 
(oSet (xLook (lkEq true .int g13 q8)) p14 
(oSet (xMove g14) p7 
oEnd)))))))) (kCond g7 (kSeq (kDraw 
(dLook (nat_lit 0) [] [] (lkMove g0) p15 
(dTurn (nat_lit 1) [] [] false (xNil g15) p16 
(dLook (nat_lit 2) [] [] (lkFieldAddr (nat_lit 0) g16) p17 
(dLook (nat_lit 3) [] [] (lkFieldAddr (nat_lit 2) g17) p18 
(dLook (nat_lit 4) [] [] (lkFieldAddr (nat_lit 0) g18) p19 
(dLook (nat_lit 5) [] [] (lkLoad1 g19) p20 
(dLook (nat_lit 6) [] [] (lkMove q23) p2 
(dLook (nat_lit 7) [] [] (lkMove g20) p3 (dEnd [(nat_lit 15), (nat_lit 16), (nat_lit 17), (nat_lit 18), (nat_lit 19), (nat_lit 20), (nat_lit 2), (nat_lit 3)])))))))))) kRet) kSkip))))) (kSeq (oSet (xTurn (tnBuildSlice [] [] (nat_lit 0))) p21 
(oSet (xMove g0) p22 
(oSet (xNil g22) p23 
(oSet (xLook (lkFieldAddr (nat_lit 0) g23)) p24 
(oSet (xLook (lkFieldAddr (nat_lit 1) g24)) p25 
(oSet (xLook (lkLoad1 g25)) p26 
(oSet (xTurn (tnAppend (nat_lit 1) g21 g26)) p27 
(oSet (xMove g27) p2 
(oSet (xMove q8) p3 
oEnd))))))))) kRet)))⟩
def q257 : OpdF := kC (.func (.func (nat_lit 177)) ⟨[]⟩ ⟨[]⟩)
noncomputable def k97 : KFun := ⟨[rTmp (nat_lit 2) g2], (kSeq (oSet (xMove q0) p2 
oEnd) (kSeq (oSet (xMove g0) p3 
(oSet (xLook (lkEq false .ptr g3 q5)) p4 
(oSet (xMove g4) p5 
(oSetIf (wantF g5) (xMove g0) p6 
(oSetIf (wantF g5) (xNil g6) p7 
(oSetIf (wantF g5) (xLook (lkFieldAddr (nat_lit 0) g7)) p8 
(oSetIf (wantF g5) (xCall q257 [g8]) p9 
(oSet (xLook (lkPick g5 q3 g9)) p10 
(oSet (xMove g10) p2 
oEnd))))))))) kRet))⟩
def q261 : OpdF := kC (.func (.func (nat_lit 180)) ⟨[]⟩ ⟨[]⟩)
def q262 : List Value := [(.bool false), (.int .u32 (.ofNat (nat_lit 0))), (.int .u32 (.ofNat (nat_lit 0))), (.int .u32 (.ofNat (nat_lit 0))), (.int .u32 (.ofNat (nat_lit 0))), (.int .u32 (.ofNat (nat_lit 0))), (.int .u32 (.ofNat (nat_lit 0))), (.int .u32 (.ofNat (nat_lit 0))), (.int .u32 (.ofNat (nat_lit 0))), (.int .u8 (.ofNat (nat_lit 0))), (.int .u8 (.ofNat (nat_lit 0))), (.int .u8 (.ofNat (nat_lit 0))), (.int .u8 (.ofNat (nat_lit 0))), (.int .u8 (.ofNat (nat_lit 0))), (.int .u8 (.ofNat (nat_lit 0))), (.int .u8 (.ofNat (nat_lit 0))), (.int .u8 (.ofNat (nat_lit 0))), (.int .u8 (.ofNat (nat_lit 0))), (.int .u8 (.ofNat (nat_lit 0))), (.int .u8 (.ofNat (nat_lit 0))), (.int .u8 (.ofNat (nat_lit 0))), (.int .u8 (.ofNat (nat_lit 0))), (.int .u8 (.ofNat (nat_lit 0))), (.int .u8 (.ofNat (nat_lit 0))), (.int .u8 (.ofNat (nat_lit 0))), (.int .u8 (.ofNat (nat_lit 0))), (.int .u8 (.ofNat (nat_lit 0))), (.int .u8 (.ofNat (nat_lit 0))), (.int .u8 (.ofNat (nat_lit 0))), (.int .u8 (.ofNat (nat_lit 0))), (.int .u8 (.ofNat (nat_lit 0))), (.int .u8 (.ofNat (nat_lit 0))), (.int .u8 (.ofNat (nat_lit 0))), (.int .u8 (.ofNat (nat_lit 0))), (.int .u8 (.ofNat (nat_lit 0))), (.int .u8 (.ofNat (nat_lit 0))), (.int .u8 (.ofNat (nat_lit 0))), (.int .u8 (.ofNat (nat_lit 0))), (.int .u8 (.ofNat (nat_lit 0))), (.int .u8 (.ofNat (nat_lit 0))), (.int .u8 (.ofNat (nat_lit 0))), (.int .u8 (.ofNat (nat_lit 0))), (.int .u8 (.ofNat (nat_lit 0))), (.int .u8 (.ofNat (nat_lit 0))), (.int .u8 (.ofNat (nat_lit 0))), (.int .u8 (.ofNat (nat_lit 0))), (.int .u8 (.ofNat (nat_lit 0))), (.int .u8 (.ofNat (nat_lit 0))), (.int .u8 (.ofNat (nat_lit 0))), (.int .u8 (.ofNat (nat_lit 0))), (.int .u8 (.ofNat (nat_lit 0))), (.int .u8 (.ofNat (nat_lit 0))), (.int .u8 (.ofNat (nat_lit 0))), (.int .u8 (.ofNat (nat_lit 0))), (.int .u8 (.ofNat (nat_lit 0))), (.int .u8 (.ofNat (nat_lit 0))), (.int .u8 (.ofNat (nat_lit 0))), (.int .u8 (.ofNat (nat_lit 0))), (.int .u8 (.ofNat (nat_lit 0))), (.int .u8 (.ofNat (nat_lit 0))), (.int .u8 (.ofNat (nat_lit 0))), (.int .u8 (.ofNat (nat_lit 0))), (.int .u8 (.ofNat (nat_lit 0))), (.int .u8 (.ofNat (nat_lit 0))), (.int .u8 (.ofNat (nat_lit 0))), (.int .u8 (.ofNat (nat_lit 0))), (.int .u8 (.ofNat (nat_lit 0))), (.int .u8 (.ofNat (nat_lit 0))), (.int .u8 (.ofNat (nat_lit 0))), (.int .u8 (.ofNat (nat_lit 0))), (.int .u8 (.ofNat (nat_lit 0))), (.int .u8 (.ofNat (nat_lit 0))), (.int .u8 (.ofNat (nat_lit 0))), (.int .i64 (.ofNat (nat_lit 0)))]
noncomputable def k100 : KFun := ⟨[rTmp (nat_lit 0) g0], (kSeq (oSet (xMove q5) p0 
oEnd) (kSeq (oSet (xCall q261 []) p1 
(oSet (xLook (lkBuild q262 [((nat_lit 0), (nat_lit 1), q3), ((nat_lit 1), (nat_lit 8), g1)])) p2 
(oSet (xTurn (tnBox g2)) p3 
(oSet (xMove g3) p0 
oEnd)))) kRet))⟩
def q263 : OpdF := kC (.func (.func (nat_lit 181)) ⟨[]⟩ ⟨[]⟩)
def q264 : OpdF := kC (.func (.func (nat_lit 182)) ⟨[]⟩ ⟨[]⟩)
noncomputable def k101 : KFun := ⟨[], (kSeq (kSeq (oSet (xMove g0) p5 
(oSet (xCall q263 [g5]) p6 
oEnd)) (kCond g6 kRet kSkip)) (kBlock (nat_lit 0) (kLoop (kSeq (kSeq (oSet (xMove g1) p7 
(oSet (xLook (lkLen .sl g7)) p8 
(oSet (xLook (lkBin .gtr g8 q8)) p9 
oEnd))) (kCond g9 kSkip (kExit (nat_lit 0)))) (kBlock (nat_lit 1) (kSeq (kDraw 
(dLook (nat_lit 0) [] [] (lkMove g0) p10 
(dTurn (nat_lit 1) [] [] false (xNil g10) p11 
(dLook (nat_lit 2) [] [] (lkFieldAddr (nat_lit 9) g11) p12 
(dLook (nat_lit 3) [] [] (lkMove g0) p13 
(dTurn (nat_lit 4) [] [] false (xNil g13) p14 
(dLook (nat_lit 5) [] [] (lkFieldAddr (nat_lit 73) g14) p15 
(dLook (nat_lit 6) [] [] (lkLoad1 g15) p16 
(dLook (nat_lit 7) [] [] (lkBin .rem g16 q180) p17 
(dLook (nat_lit 8) [] [] (lkSliceArr (nat_lit 64) (nat_lit 1) g12 (some g17) none none) p18 
(dLook (nat_lit 9) [] [] (lkMove g1) p19 
(dTurn (nat_lit 10) [] [] true (xTurn (tnCopy (nat_lit 1) g18 g19)) p20 
(dLook (nat_lit 11) [] [(nat_lit 10)] (lkMove g20) p4 (dEnd [(nat_lit 10), (nat_lit 11), (nat_lit 12), (nat_lit 13), (nat_lit 14), (nat_lit 15), (nat_lit 16), (nat_lit 17), (nat_lit 18), (nat_lit 19), (nat_lit 20), (nat_lit 4)])))))))))))))) (kSeq (oSet (xMove g0) p21 
(oSet (xNil g21) p22 
(oSet (xLook (lkFieldAddr (nat_lit 73) g22)) p23 
(oSet (xLook (lkLoad1 g23)) p24 
(oSet (xMove g4) p25 
(oSet (xLook (lkBin .add g24 g25)) p26 
(oSet (xNil g21) p27 
(oSet (xLook (lkFieldAddr (nat_lit 73) g27)) p28 
(oDo (xTurn (tnStore (nat_lit 1) g28 g26)) 
oEnd))))))))) (kSeq (oSet (xMove g1) p29 
(oSet (xMove g4) p30 
(oSet (xLook (lkSliceSl (nat_lit 1) g29 (some g30) none none)) p31 
(oSet (xMove g31) p1 
oEnd)))) (kSeq (oSet (xMove g0) p32 
(oSet (xNil g32) p33 
(oSet (xLook (lkFieldAddr (nat_lit 73) g33)) p34 
(oSet (xLook (lkLoad1 g34)) p35 
(oSet (xLook (lkBin .rem g35 q180)) p36 
(oSet (xLook (lkEq false .int g36 q8)) p37 
oEnd)))))) (kCond g37 (kDraw 
(dLook (nat_lit 0) [] [] (lkMove g0) p38 
(dLook (nat_lit 1) [] [] (lkMove g0) p39 
(dTurn (nat_lit 2) [] [] false (xNil g39) p40 
(dLook (nat_lit 3) [] [] (lkFieldAddr (nat_lit 1) g40) p41 
(dLook (nat_lit 4) [] [] (lkLoadN (nat_lit 8) g41) p42 
(dLook (nat_lit 5) [] [] (lkMove g0) p43 
(dTurn (nat_lit 6) [] [] false (xNil g43) p44 
(dLook (nat_lit 7) [] [] (lkFieldAddr (nat_lit 9) g44) p45 
(dLook (nat_lit 8) [] [] (lkSliceArr (nat_lit 64) (nat_lit 1) g45 none none none) p46 
(dTurn (nat_lit 9) [] [] true (xCall q264 [g42, g46]) p47 
(dTurn (nat_lit 10) [] [(nat_lit 9)] false (xNil g38) p48 
(dLook (nat_lit 11) [] [(nat_lit 9)] (lkFieldAddr (nat_lit 1) g48) p49 
(dTurn (nat_lit 12) [] [(nat_lit 9)] true (xTurn (tnStore (nat_lit 8) g49 g47)) noDst (dEnd [(nat_lit 38), (nat_lit 39), (nat_lit 40), (nat_lit 41), (nat_lit 42), (nat_lit 43), (nat_lit 44), (nat_lit 45), (nat_lit 46), (nat_lit 47), (nat_lit 48), (nat_lit 49)]))))))))))))))) kSkip))))))))))⟩
def q265 : List Value := [(.int .u8 (.ofNat (nat_lit 0))), (.int .u8 (.ofNat (nat_lit 0))), (.int .u8 (.ofNat (nat_lit 0))), (.int .u8 (.ofNat (nat_lit 0))), (.int .u8 (.ofNat (nat_lit 0))), (.int .u8 (.ofNat (nat_lit 0))), (.int .u8 (.ofNat (nat_lit 0))), (.int .u8 (.ofNat (nat_lit 0))), (.int .u8 (.ofNat (nat_lit 0))), (.int .u8 (.ofNat (nat_lit 0))), (.int .u8 (.ofNat (nat_lit 0))), (.int .u8 (.ofNat (nat_lit 0))), (.int .u8 (.ofNat (nat_lit 0))), (.int .u8 (.ofNat (nat_lit 0))), (.int .u8 (.ofNat (nat_lit 0))), (.int .u8 (.ofNat (nat_lit 0))), (.int .u8 (.ofNat (nat_lit 0))), (.int .u8 (.ofNat (nat_lit 0))), (.int .u8 (.ofNat (nat_lit 0))), (.int .u8 (.ofNat (nat_lit 0))), (.int .u8 (.ofNat (nat_lit 0))), (.int .u8 (.ofNat (nat_lit 0))), (.int .u8 (.ofNat (nat_lit 0))), (.int .u8 (.ofNat (nat_lit 0))), (.int .u8 (.ofNat (nat_lit 0))), (.int .u8 (.ofNat (nat_lit 0))), (.int .u8 (.ofNat (nat_lit 0))), (.int .u8 (.ofNat (nat_lit 0))), (.int .u8 (.ofNat (nat_lit 0))), (.int .u8 (.ofNat (nat_lit 0))), (.int .u8 (.ofNat (nat_lit 0))), (.int .u8 (.ofNat (nat_lit 0))), (.int .u8 (.ofNat (nat_lit 0))), (.int .u8 (.ofNat (nat_lit 0))), (.int .u8 (.ofNat (nat_lit 0))), (.int .u8 (.ofNat (nat_lit 0))), (.int .u8 (.ofNat (nat_lit 0))), (.int .u8 (.ofNat (nat_lit 0))), (.int .u8 (.ofNat (nat_lit 0))), (.int .u8 (.ofNat (nat_lit 0))), (.int .u8 (.ofNat (nat_lit 0))), (.int .u8 (.ofNat (nat_lit 0))), (.int .u8 (.ofNat (nat_lit 0))), (.int .u8 (.ofNat (nat_lit 0))), (.int .u8 (.ofNat (nat_lit 0))), (.int .u8 (.ofNat (nat_lit 0))), (.int .u8 (.ofNat (nat_lit 0))), (.int .u8 (.ofNat (nat_lit 0))), (.int .u8 (.ofNat (nat_lit 0))), (.int .u8 (.ofNat (nat_lit 0))), (.int .u8 (.ofNat (nat_lit 0))), (.int .u8 (.ofNat (nat_lit 0))), (.int .u8 (.ofNat (nat_lit 0))), (.int .u8 (.ofNat (nat_lit 0))), (.int .u8 (.ofNat (nat_lit 0))), (.int .u8 (.ofNat (nat_lit 0))), (.int .u8 (.ofNat (nat_lit 0))), (.int .u8 (.ofNat (nat_lit 0))), (.int .u8 (.ofNat (nat_lit 0))), (.int .u8 (.ofNat (nat_lit 0))), (.int .u8 (.ofNat (nat_lit 0))), (.int .u8 (.ofNat (nat_lit 0))), (.int .u8 (.ofNat (nat_lit 0))), (.int .u8 (.ofNat (nat_lit 0))), (.int .u8 (.ofNat (nat_lit 0))), (.int .u8 (.ofNat (nat_lit 0))), (.int .u8 (.ofNat (nat_lit 0))), (.int .u8 (.ofNat (nat_lit 0))), (.int .u8 (.ofNat (nat_lit 0))), (.int .u8 (.ofNat (nat_lit 0))), (.int .u8 (.ofNat (nat_lit 0))), (.int .u8 (.ofNat (nat_lit 0)))]
def q266 : OpdF := kC (.int .i64 (.ofNat (nat_lit 119)))
def q267 : OpdF := kC (.int .i64 (.ofNat (nat_lit 56)))
def q268 : OpdF := kC (.int .i64 (.ofNat (nat_lit 24)))
noncomputable def k102 : KFun := ⟨[rCellN (nat_lit 2) g2 (nat_lit 32)], (kSeq (oSet (xTurn (tnAlloc q66)) p2 
oEnd) (kSeq (kSeq (oSet (xMove g0) p12 
(oSet (xCall q263 [g12]) p13 
oEnd)) (kCond g13 (kSeq (oSet (xLook (lkBuild q66 [])) p14 
(oDo (xTurn (tnStore (nat_lit 32) g2 g14)) 
oEnd)) kRet) kSkip)) (kSeq (oSet (xMove g0) p15 
(oSet (xNil g15) p16 
(oSet (xLook (lkLoadN (nat_lit 74) g16)) p17 
(oSet (xTurn (tnAlloc q262)) p3 
(oDo (xTurn (tnStore (nat_lit 74) g3 g17)) 
oEnd))))) (kSeq (oSet (xLook (lkBuild q265 [((nat_lit 0), (nat_lit 1), q193)])) p18 
(oSet (xTurn (tnAlloc q265)) p4 
(oDo (xTurn (tnStore (nat_lit 72) g4 g18)) 
oEnd))) (kSeq (oSet (xMove g0) p19 
(oSet (xNil g19) p20 
(oSet (xLook (lkFieldAddr (nat_lit 73) g20)) p21 
(oSet (xLook (lkLoad1 g21)) p22 
(oSet (xLook (lkBin .rem g22 q180)) p23 
(oSet (xLook (lkBin .sub q266 g23)) p24 
(oSet (xLook (lkBin .rem g24 q180)) p25 
(oSet (xLook (lkBin .add q12 g25)) p26 
(oSet (xMove g26) p5 
oEnd))))))))) (kSeq (oSet (xMove g0) p27 
(oSet (xNil g27) p28 
(oSet (xLook (lkFieldAddr (nat_lit 73) g28)) p29 
(oSet (xLook (lkLoad1 g29)) p30 
(oSet (xLook (lkIntTo .u64 g30)) p31 
(oSet (xLook (lkBin .mul g31 q181)) p32 
(oSet (xMove g32) p6 
oEnd))))))) (kSeq (kSeq (oSet (xMove q8) p33 
oEnd) (kBlock (nat_lit 0) (kLoop (kSeq (oSet (xLook (lkBin .lss g33 q41)) p34 
oEnd) (kSeq (kCond g34 kSkip (kExit (nat_lit 0))) (kSeq (kBlock (nat_lit 1) (kSeq (oSet (xMove g33) p35 
(oSet (xMove g35) p7 
oEnd)) (oSet (xMove g5) p36 
(oSet (xMove g7) p37 
(oSet (xLook (lkBin .add g36 g37)) p38 
(oSet (xMove g6) p39 
(oSet (xMove g7) p40 
(oSet (xLook (lkBin .mul q41 g40)) p41 
(oSet (xLook (lkBin .sub q267 g41)) p42 
(oSet (xLook (lkBin .shr g39 g42)) p43 
(oSet (xLook (lkIntTo .u8 g43)) p44 
(oSet (xLook (lkIxArr (nat_lit 72) (nat_lit 1) g4 g38)) p45 
(oDo (xTurn (tnStore (nat_lit 1) g45 g44)) 
oEnd))))))))))))) (oSet (xLook (lkBin .add g33 q12)) p46 
(oSet (xMove g46) p33 
oEnd)))))))) (kSeq (oSet (xMove g5) p47 
(oSet (xLook (lkBin .add g47 q41)) p48 
(oSet (xLook (lkSliceArr (nat_lit 72) (nat_lit 1) g4 none (some g48) none)) p49 
(oSet (xCall q149 [g3, g49]) p50 
oEnd)))) (kSeq (oSet (xTurn (tnAlloc q66)) p8 
oEnd) (kSeq (kSeq (oSet (xLook (lkFieldAddr (nat_lit 1) g3)) p51 
(oSet (xLook (lkLoadN (nat_lit 8) g51)) p52 
(oSet (xMove q8) p53 
oEnd))) (kBlock (nat_lit 2) (kLoop (kSeq (oSet (xLook (lkBin .lss g53 q41)) p54 
oEnd) (kSeq (kCond g54 kSkip (kExit (nat_lit 2))) (kSeq (kBlock (nat_lit 3) (kSeq (oSet (xMove g53) p55 
(oSet (xLook (lkIxVal1 (nat_lit 8) g52 g53)) p56 
(oSet (xMove g55) p9 
(oSet (xMove g56) p10 
oEnd)))) (kSeq (oSet (xMove q8) p57 
oEnd) (kBlock (nat_lit 4) (kLoop (kSeq (oSet (xLook (lkBin .lss g57 q70)) p58 
oEnd) (kSeq (kCond g58 kSkip (kExit (nat_lit 4))) (kSeq (kBlock (nat_lit 5) (kSeq (oSet (xMove g57) p59 
(oSet (xMove g59) p11 
oEnd)) (oSet (xMove g9) p60 
(oSet (xLook (lkBin .mul q70 g60)) p61 
(oSet (xMove g11) p62 
(oSet (xLook (lkBin .add g61 g62)) p63 
(oSet (xMove g10) p64 
(oSet (xMove g11) p65 
(oSet (xLook (lkBin .mul q41 g65)) p66 
(oSet (xLook (lkBin .sub q268 g66)) p67 
(oSet (xLook (lkBin .shr g64 g67)) p68 
(oSet (xLook (lkIntTo .u8 g68)) p69 
(oSet (xLook (lkIxArr (nat_lit 32) (nat_lit 1) g8 g63)) p70 
(oDo (xTurn (tnStore (nat_lit 1) g70 g69)) 
oEnd)))))))))))))) (oSet (xLook (lkBin .add g57 q12)) p71 
(oSet (xMove g71) p57 
oEnd)))))))))) (oSet (xLook (lkBin .add g53 q12)) p72 
(oSet (xMove g72) p53 
oEnd)))))))) (kSeq (oSet (xLook (lkLoadN (nat_lit 32) g8)) p73 
(oDo (xTurn (tnStore (nat_lit 32) g2 g73)) 
oEnd)) kRet)))))))))))⟩
def q269 : OpdF := kC (.func (.func (nat_lit 183)) ⟨[]⟩ ⟨[]⟩)
noncomputable def k103 : KFun := ⟨[rTmp (nat_lit 4) g4], (kSeq (oSet (xTurn (tnBox g0)) p2 
(oSet (xTurn (tnBox g1)) p3 
(oSet (xMove q8) p4 
oEnd))) (kSeq (oSet (xTurn (tnAlloc q108)) p5 
(oDo (xTurn (tnStore (nat_lit 1) g5 q8)) 
oEnd)) (kSeq (kSeq (oSet (xLook (lkLoad1 g2)) p6 
(oSet (xLook (lkMkFunc (.func (nat_lit 184)) [] [g2, g3, g5])) p7 
(oSet (xCall q269 [g6, g7]) p8 
(oSet (xLook (lkUn .not g8)) p9 
oEnd)))) (kCond g9 (kSeq (oSet (xMove q8) p4 
oEnd) kRet) kSkip)) (kSeq (oSet (xLook (lkLoad1 g5)) p10 
(oSet (xMove g10) p4 
oEnd)) kRet))))⟩
noncomputable def k104 : KFun := ⟨[rTmp (nat_lit 2) g2], (kSeq (oSet (xMove q8) p2 
oEnd) (kSeq (kSeq (oSet (xMove g0) p3 
(oSet (xLook (lkEq false .ptr g3 q5)) p4 
(oSet (xMove g4) p5 
(oSetIf (wantF g5) (xMove g0) p6 
(oSetIf (wantF g5) (xNil g6) p7 
(oSetIf (wantF g5) (xLook (lkFieldAddr (nat_lit 0) g7)) p8 
(oSetIf (wantF g5) (xCall q257 [g8]) p9 
(oSet (xLook (lkPick g5 q3 g9)) p10 
oEnd)))))))) (kCond g10 (kSeq (oSet (xMove q8) p2 
oEnd) kRet) kSkip)) (kSeq (oSet (xMove g0) p11 
(oSet (xNil g11) p12 
(oSet (xLook (lkFieldAddr (nat_lit 4) g12)) p13 
(oSet (xLook (lkLoad1 g13)) p14 
(oSet (xMove g14) p2 
oEnd))))) kRet)))⟩
noncomputable def k105 : KFun := ⟨[rTmp (nat_lit 4) g4], (kSeq (oSet (xTurn (tnBox g0)) p2 
(oSet (xTurn (tnBox g1)) p3 
(oSet (xMove q104) p4 
oEnd))) (kSeq (oSet (xTurn (tnAlloc q17)) p5 
(oDo (xTurn (tnStore (nat_lit 1) g5 q104)) 
oEnd)) (kSeq (kSeq (oSet (xLook (lkLoad1 g2)) p6 
(oSet (xLook (lkMkFunc (.func (nat_lit 186)) [] [g2, g3, g5])) p7 
(oSet (xCall q269 [g6, g7]) p8 
(oSet (xLook (lkUn .not g8)) p9 
oEnd)))) (kCond g9 (kSeq (oSet (xMove q104) p4 
oEnd) kRet) kSkip)) (kSeq (oSet (xLook (lkLoad1 g5)) p10 
(oSet (xMove g10) p4 
oEnd)) kRet))))⟩
noncomputable def k107 : KFun := ⟨[rCellN (nat_lit 2) g2 (nat_lit 2)], (kSeq (oSet (xTurn (tnAlloc q35)) p2 
oEnd) (kSeq (kSeq (oSet (xMove g0) p3 
(oSet (xLook (lkEq false .ptr g3 q5)) p4 
(oSet (xMove g4) p5 
(oSetIf (wantF g5) (xMove g0) p6 
(oSetIf (wantF g5) (xNil g6) p7 
(oSetIf (wantF g5) (xLook (lkFieldAddr (nat_lit 0) g7)) p8 
(oSetIf (wantF g5) (xCall q257 [g8]) p9 
(oSet (xLook (lkPick g5 q3 g9)) p10 
oEnd)))))))) (kCond g10 (kSeq (oSet (xLook (lkBuild q35 [((nat_lit 0), (nat_lit 1), q12)])) p11 
(oDo (xTurn (tnStore (nat_lit 2) g2 g11)) 
oEnd)) kRet) kSkip)) (kSeq (oSet (xMove g0) p12 
(oSet (xNil g12) p13 
(oSet (xLook (lkFieldAddr (nat_lit 0) g13)) p14 
(oSet (xLook (lkFieldAddr (nat_lit 2) g14)) p15 
(oSet (xLook (lkLoadN (nat_lit 2) g15)) p16 
(oDo (xTurn (tnStore (nat_lit 2) g2 g16)) 
oEnd)))))) kRet)))⟩
noncomputable def k108 : KFun := ⟨[rTmp (nat_lit 6) g6], (kSeq (oSet (xTurn (tnBox g0)) p3 
(oSet (xTurn (tnBox g1)) p4 
(oSet (xTurn (tnBox g2)) p5 
(oSet (xMove q8) p6 
oEnd)))) (kSeq (oSet (xTurn (tnAlloc q108)) p7 
(oDo (xTurn (tnStore (nat_lit 1) g7 q8)) 
oEnd)) (kSeq (kSeq (oSet (xLook (lkLoad1 g3)) p8 
(oSet (xLook (lkMkFunc (.func (nat_lit 188)) [] [g3, g4, g5, g7])) p9 
(oSet (xCall q269 [g8, g9]) p10 
(oSet (xLook (lkUn .not g10)) p11 
oEnd)))) (kCond g11 (kSeq (oSet (xMove q8) p6 
oEnd) kRet) kSkip)) (kSeq (oSet (xLook (lkLoad1 g7)) p12 
(oSet (xMove g12) p6 
oEnd)) kRet))))⟩
noncomputable def k109 : KFun := ⟨[rTmp (nat_lit 2) g2], (kSeq (oSet (xMove q23) p2 
oEnd) (kSeq (kSeq (oSet (xMove g0) p3 
(oSet (xLook (lkEq false .slice g3 q23)) p4 
oEnd)) (kCond g4 (kSeq (oSet (xMove q23) p2 
oEnd) kRet) kSkip)) (kSeq (oSet (xTurn (tnBuildSlice [] [] (nat_lit 0))) p5 
(oSet (xMove g0) p6 
(oSet (xTurn (tnAppend (nat_lit 6) g5 g6)) p7 
(oSet (xMove g7) p2 
oEnd)))) kRet)))⟩
noncomputable def k110 : KFun := ⟨[rTmp (nat_lit 2) g2], (kSeq (oSet (xMove q8) p2 
oEnd) (kSeq (kSeq (oSet (xMove g0) p3 
(oSet (xLook (lkEq false .ptr g3 q5)) p4 
(oSet (xMove g4) p5 
(oSetIf (wantF g5) (xMove g0) p6 
(oSetIf (wantF g5) (xNil g6) p7 
(oSetIf (wantF g5) (xLook (lkFieldAddr (nat_lit 0) g7)) p8 
(oSetIf (wantF g5) (xCall q257 [g8]) p9 
(oSet (xLook (lkPick g5 q3 g9)) p10 
oEnd)))))))) (kCond g10 (kSeq (oSet (xMove q8) p2 
oEnd) kRet) kSkip)) (kSeq (kDraw 
(dLook (nat_lit 0) [] [] (lkMove g0) p11 
(dTurn (nat_lit 1) [] [] false (xNil g11) p12 
(dLook (nat_lit 2) [] [] (lkFieldAddr (nat_lit 0) g12) p13 
(dLook (nat_lit 3) [] [] (lkFieldAddr (nat_lit 1) g13) p14 
(dLook (nat_lit 4) [] [] (lkLoad1 g14) p15 
(dLook (nat_lit 5) [] [] (lkLen .sl g15) p16 
(dLook (nat_lit 6) [] [] (lkMove g0) p17 
(dTurn (nat_lit 7) [] [] false (xNil g17) p18 
(dLook (nat_lit 8) [] [] (lkFieldAddr (nat_lit 4) g18) p19 
(dLook (nat_lit 9) [] [] (lkLoad1 g19) p20 
(dLook (nat_lit 10) [] [] (lkBin .sub g16 g20) p21 
(dLook (nat_lit 11) [] [] (lkMove g21) p2 (dEnd [(nat_lit 11), (nat_lit 12), (nat_lit 13), (nat_lit 14), (nat_lit 15), (nat_lit 16), (nat_lit 17), (nat_lit 18), (nat_lit 19), (nat_lit 20), (nat_lit 21), (nat_lit 2)])))))))))))))) kRet)))⟩
noncomputable def k111 : KFun := ⟨[rTmp (nat_lit 2) g2], (kSeq (oSet (xMove q104) p2 
oEnd) (kSeq (oSet (xMove q104) p3 
oEnd) (kSeq (kSeq (oSet (xMove g0) p6 
(oSet (xLook (lkLen .sl g6)) p7 
(oSet (xMove q8) p8 
oEnd))) (kBlock (nat_lit 0) (kLoop (kSeq (oSet (xLook (lkBin .lss g8 g7)) p9 
oEnd) (kSeq (kCond g9 kSkip (kExit (nat_lit 0))) (kSeq (kBlock (nat_lit 1) (kSeq (oSet (xLook (lkIxSl (nat_lit 1) g6 g8)) p10 
(oSet (xLook (lkLoad1 g10)) p11 
(oSet (xMove g11) p5 
oEnd))) (oSet (xMove g3) p12 
(oSet (xMove g5) p13 
(oSet (xLook (lkBin .add g12 g13)) p14 
(oSet (xMove g14) p3 
oEnd)))))) (oSet (xLook (lkBin .add g8 q12)) p15 
(oSet (xMove g15) p8 
oEnd)))))))) (kSeq (oSet (xMove g3) p16 
(oSet (xMove g16) p2 
oEnd)) kRet))))⟩
def q270 : OpdF := kC (.func (.func (nat_lit 189)) ⟨[]⟩ ⟨[]⟩)
noncomputable def k112 : KFun := ⟨[rTmp (nat_lit 2) g2], (kSeq (oSet (xMove q104) p2 
oEnd) (kSeq (oSet (xMove g0) p3 
(oSet (xCall q270 [g3]) p4 
(oSet (xMove g4) p2 
oEnd))) kRet))⟩
def q271 : OpdF := kC (.func (.func (nat_lit 190)) ⟨[]⟩ ⟨[]⟩)
noncomputable def k113 : KFun := ⟨[rTmp (nat_lit 4) g4], (kSeq (oSet (xMove q0) p4 
oEnd) (kSeq (oSet (xMove g0) p5 
(oSet (xMove g1) p6 
(oSet (xCall q271 [g5, g6]) p7 
(oSet (xLook (lkBin .geq g7 q8)) p8 
(oSet (xMove g8) p4 
oEnd))))) kRet))⟩
def q273 : OpdF := kC (.int .i64 (.ofNat (nat_lit 10)))
noncomputable def k115 : KFun := ⟨[rTmp (nat_lit 4) g4], (kSeq (oSet (xMove q8) p4 
oEnd) (kSeq (kBlock (nat_lit 0) (kSeq (oSet (xMove g0) p6 
(oSet (xCall q175 [g6]) p7 
(oSet (xMove g7) p5 
oEnd))) (kCond g5 (kSeq (oSet (xMove q12) p4 
oEnd) kRet) (kSeq (oSet (xMove g0) p9 
(oSet (xNil g9) p10 
(oSet (xLook (lkFieldAddr (nat_lit 0) g10)) p11 
(oSet (xLook (lkFieldAddr (nat_lit 2) g11)) p12 
(oSet (xLook (lkLoad1 g12)) p13 
(oSet (xMove g13) p8 
oEnd)))))) (kCond g8 (kSeq (oSet (xMove q273) p4 
oEnd) kRet) (kSeq (oSet (xMove g1) p15 
(oSet (xLook (lkBin .lss g15 q8)) p16 
(oSet (xMove g16) p17 
(oSetIf (wantF g17) (xMove g1) p18 
(oSetIf (wantF g17) (xMove g0) p19 
(oSetIf (wantF g17) (xNil g19) p20 
(oSetIf (wantF g17) (xLook (lkFieldAddr (nat_lit 4) g20)) p21 
(oSetIf (wantF g17) (xLook (lkLoad1 g21)) p22 
(oSetIf (wantF g17) (xLook (lkBin .geq g18 g22)) p23 
(oSet (xLook (lkPick g17 q3 g23)) p24 
(oSet (xMove g24) p14 
oEnd))))))))))) (kCond g14 (kSeq (oSet (xMove q86) p4 
oEnd) kRet) kSkip))))))) (kSeq (oSet (xMove q8) p4 
oEnd) kRet)))⟩
noncomputable def k116 : KFun := ⟨[rTmp (nat_lit 2) g2], (kSeq (oSet (xMove q0) p2 
oEnd) (kSeq (oSet (xMove g0) p3 
(oSet (xLook (lkEq false .ptr g3 q5)) p4 
(oSet (xMove g4) p5 
(oSetIf (wantF g5) (xMove g0) p6 
(oSetIf (wantF g5) (xNil g6) p7 
(oSetIf (wantF g5) (xLook (lkFieldAddr (nat_lit 3) g7)) p8 
(oSetIf (wantF g5) (xLook (lkLoad1 g8)) p9 
(oSetIf (wantF g5) (xLook (lkUn .not g9)) p10 
(oSet (xLook (lkPick g5 q3 g10)) p11 
(oSet (xMove g11) p2 
oEnd)))))))))) kRet))⟩
def q274 : OpdF := kC (.func (.func (nat_lit 192)) ⟨[]⟩ ⟨[]⟩)
noncomputable def k117 : KFun := ⟨[rTmp (nat_lit 2) g2, rTmp (nat_lit 3) g3, rTmp (nat_lit 4) g4], (kSeq (oSet (xMove q23) p2 
(oSet (xMove q0) p3 
(oSet (xMove q8) p4 
oEnd))) (kSeq (kSeq (oSet (xMove g0) p15 
(oSet (xCall q90 [g15, q8]) p16 
(oSet (xMove g16) p14 
(oSet (xLook (lkExtract (nat_lit 0) g14)) p17 
(oSet (xLook (lkExtract (nat_lit 1) g14)) p18 
(oSet (xMove g17) p5 
(oSet (xMove g18) p6 
oEnd))))))) (kSeq (oSet (xMove g6) p19 
(oSet (xLook (lkEq false .int g19 q12)) p20 
oEnd)) (kCond g20 (kSeq (oSet (xMove g6) p21 
(oSet (xMove q23) p2 
(oSet (xMove q0) p3 
(oSet (xMove g21) p4 
oEnd)))) kRet) kSkip))) (kSeq (kSeq (oSet (xMove g0) p22 
(oSet (xCall q91 [g22]) p23 
(oSet (xLook (lkBin .lss g23 q9)) p24 
oEnd))) (kCond g24 (kSeq (oSet (xMove q23) p2 
(oSet (xMove q0) p3 
(oSet (xMove q41) p4 
oEnd))) kRet) kSkip)) (kSeq (oSet (xMove q0) p7 
oEnd) (kSeq (oSet (xMove q23) p8 
oEnd) (kSeq (kSeq (oSet (xMove q8) p25 
oEnd) (kBlock (nat_lit 0) (kLoop (kSeq (oSet (xLook (lkBin .lss g25 q9)) p26 
oEnd) (kSeq (kCond g26 kSkip (kExit (nat_lit 0))) (kSeq (kBlock (nat_lit 1) (kSeq (oSet (xMove g25) p27 
(oSet (xMove g27) p9 
oEnd)) (kSeq (oSet (xMove g0) p29 
(oSet (xMove g9) p30 
(oSet (xCall q90 [g29, g30]) p31 
(oSet (xMove g31) p28 
(oSet (xLook (lkExtract (nat_lit 0) g28)) p32 
(oSet (xLook (lkExtract (nat_lit 1) g28)) p33 
(oSet (xMove g32) p10 
(oSet (xMove g33) p11 
oEnd)))))))) (kSeq (kSeq (oSet (xMove g11) p34 
(oSet (xLook (lkEq true .int g34 q8)) p35 
oEnd)) (kCond g35 (kSeq (oSet (xMove g11) p36 
(oSet (xMove q23) p2 
(oSet (xMove q0) p3 
(oSet (xMove g36) p4 
oEnd)))) kRet) kSkip)) (kSeq (oSet (xMove g7) p37 
(oSet (xMove g37) p38 
(oSetIf (wantF g38) (xMove g10) p39 
(oSetIf (wantF g38) (xTurn (tnMkSlice q142 q180 q180)) p40 
(oSetIf (wantF g38) (xCall q72 [g39, g40]) p41 
(oSet (xLook (lkPick g38 q3 g41)) p42 
(oSet (xMove g42) p7 
oEnd))))))) (kSeq (oSet (xMove g10) p44 
(oSet (xCall q274 [g44]) p45 
(oSet (xMove g45) p43 
(oSet (xLook (lkExtract (nat_lit 0) g43)) p46 
(oSet (xLook (lkExtract (nat_lit 1) g43)) p47 
(oSet (xTurn (tnAlloc q95)) p12 
(oDo (xTurn (tnStore (nat_lit 35) g12 g46)) 
(oSet (xMove g47) p13 
oEnd)))))))) (kSeq (oSet (xMove g13) p48 
oEnd) (kCond g48 (oSet (xMove g8) p49 
(oSet (xTurn (tnBuildSlice q102 [((nat_lit 0), (nat_lit 1), g12)] (nat_lit 1))) p50 
(oSet (xTurn (tnAppend (nat_lit 1) g49 g50)) p51 
(oSet (xMove g51) p8 
oEnd)))) (oSet (xMove g8) p52 
(oSet (xTurn (tnBuildSlice q102 [((nat_lit 0), (nat_lit 1), q5)] (nat_lit 1))) p53 
(oSet (xTurn (tnAppend (nat_lit 1) g52 g53)) p54 
(oSet (xMove g54) p8 
oEnd)))))))))))) (oSet (xLook (lkBin .add g25 q12)) p55 
(oSet (xMove g55) p25 
oEnd)))))))) (kSeq (oSet (xMove g8) p56 
(oSet (xMove g7) p57 
(oSet (xMove g56) p2 
(oSet (xMove g57) p3 
(oSet (xMove q8) p4 
oEnd))))) kRet)))))))⟩
noncomputable def k118d0 : KD := 
(dLook (nat_lit 19) [] [] (lkPick g15 g31 q0) p32 (dEnd [(nat_lit 13), (nat_lit 14), (nat_lit 15), (nat_lit 16), (nat_lit 17), (nat_lit 18), (nat_lit 19), (nat_lit 20), (nat_lit 21), (nat_lit 22), (nat_lit 23), (nat_lit 24), (nat_lit 25), (nat_lit 26), (nat_lit 27), (nat_lit 28), (nat_lit 29), (nat_lit 30), (nat_lit 31), (nat_lit 32)]))
noncomputable def k118d1 : KD := 
(dIf [] (wantT g15) p31 (dLook (nat_lit 18) [] [] (lkPick g18 q3 g30) p31 k118d0) k118d0)
noncomputable def k118d2 : KD := 
(dIf [] (wantF g18) p30 (dLook (nat_lit 17) [] [] (lkBin .gtr g22 g29) p30 k118d1) k118d1)
noncomputable def k118d3 : KD := 
(dIf [] (wantF g18) p29 (dLook (nat_lit 16) [] [] (lkLoad1 g28) p29 k118d2) k118d2)
noncomputable def k118d4 : KD := 
(dIf [] (wantF g18) p28 (dLook (nat_lit 15) [] [] (lkFieldAddr (nat_lit 0) g27) p28 k118d3) k118d3)
noncomputable def k118d5 : KD := 
(dIf [] (wantF g18) p27 (dTurn (nat_lit 14) [] [] false (xNil g26) p27 k118d4) k118d4)
noncomputable def k118d6 : KD := 
(dIf [] (wantF g18) p26 (dLook (nat_lit 13) [] [] (lkLoad1 g25) p26 k118d5) k118d5)
noncomputable def k118d7 : KD := 
(dIf [] (wantF g18) p25 (dLook (nat_lit 12) [] [] (lkIxSl (nat_lit 1) g23 g24) p25 k118d6) k118d6)
noncomputable def k118d8 : KD := 
(dIf [] (wantF g18) p24 (dLook (nat_lit 11) [] [] (lkMove g3) p24 k118d7) k118d7)
noncomputable def k118d9 : KD := 
(dIf [] (wantF g18) p23 (dLook (nat_lit 10) [] [] (lkMove g0) p23 k118d8) k118d8)
noncomputable def k118d10 : KD := 
(dIf [] (wantF g18) p22 (dLook (nat_lit 9) [] [] (lkLoad1 g21) p22 k118d9) k118d9)
noncomputable def k118d11 : KD := 
(dIf [] (wantF g18) p21 (dLook (nat_lit 8) [] [] (lkFieldAddr (nat_lit 0) g20) p21 k118d10) k118d10)
noncomputable def k118d12 : KD := 
(dIf [] (wantF g18) p20 (dTurn (nat_lit 7) [] [] false (xNil g19) p20 k118d11) k118d11)
noncomputable def k118d13 : KD := 
(dIf [] (wantF g18) p19 (dLook (nat_lit 6) [] [] (lkMove g5) p19 k118d12) k118d12)
noncomputable def k118d14 : KD := 
(dIf [] (wantT g15) p18 (dLook (nat_lit 5) [] [] (lkMove g17) p18 k118d13) k118d13)
noncomputable def k118d15 : KD := 
(dIf [] (wantT g15) p17 (dLook (nat_lit 4) [] [] (lkBin .lss g16 q8) p17 k118d14) k118d14)
noncomputable def k118 : KFun := ⟨[rTmp (nat_lit 2) g2], (kSeq (oSet (xMove q8) p2 
oEnd) (kSeq (oSet (xMove q88) p3 
oEnd) (kSeq (kSeq (oSet (xMove g0) p6 
(oSet (xLook (lkLen .sl g6)) p7 
(oSet (xMove q8) p8 
oEnd))) (kBlock (nat_lit 0) (kLoop (kSeq (oSet (xLook (lkBin .lss g8 g7)) p9 
oEnd) (kSeq (kCond g9 kSkip (kExit (nat_lit 0))) (kSeq (kBlock (nat_lit 1) (kSeq (oSet (xMove g8) p10 
(oSet (xLook (lkIxSl (nat_lit 1) g6 g8)) p11 
(oSet (xLook (lkLoad1 g11)) p12 
(oSet (xMove g10) p4 
(oSet (xMove g12) p5 
oEnd))))) (kSeq (kDraw 
(dLook (nat_lit 0) [] [] (lkMove g5) p13 
(dLook (nat_lit 1) [] [] (lkEq true .ptr g13 q5) p14 
(dLook (nat_lit 2) [] [] (lkMove g14) p15 
(dIf [] (wantT g15) p16 (dLook (nat_lit 3) [] [] (lkMove g3) p16 k118d15) k118d15))))) (kCond g32 (oSet (xMove g4) p33 
(oSet (xMove g33) p3 
oEnd)) kSkip)))) (oSet (xLook (lkBin .add g8 q12)) p34 
(oSet (xMove g34) p8 
oEnd)))))))) (kSeq (oSet (xMove g3) p35 
(oSet (xMove g35) p2 
oEnd)) kRet))))⟩
noncomputable def k119 : KFun := ⟨[rTmp (nat_lit 2) g2], (kSeq (oSet (xMove q8) p2 
oEnd) (kSeq (kSeq (oSet (xMove g0) p3 
(oSet (xLook (lkBin .lss g3 q8)) p4 
(oSet (xMove g4) p5 
(oSetIf (wantF g5) (xMove g0) p6 
(oSetIf (wantF g5) (xLook (lkBin .gtr g6 q85)) p7 
(oSet (xLook (lkPick g5 q3 g7)) p8 
oEnd)))))) (kCond g8 (kSeq (oSet (xMove q8) p2 
oEnd) kRet) kSkip)) (kSeq (oSet (xMove g0) p9 
(oSet (xLook (lkBin .add q183 g9)) p10 
(oSet (xLook (lkBin .add g10 q180)) p11 
(oSet (xLook (lkBin .sub g11 q12)) p12 
(oSet (xLook (lkBin .quo g12 q180)) p13 
(oSet (xMove g13) p2 
oEnd)))))) kRet)))⟩
noncomputable def k120 : KFun := ⟨[rTmp (nat_lit 2) g2], (kSeq (oSet (xMove q23) p2 
oEnd) (kSeq (kSeq (oSet (xMove g0) p3 
(oSet (xLook (lkEq false .slice g3 q23)) p4 
oEnd)) (kCond g4 (kSeq (oSet (xMove q23) p2 
oEnd) kRet) kSkip)) (kSeq (oSet (xTurn (tnBuildSlice [] [] (nat_lit 0))) p5 
(oSet (xMove g0) p6 
(oSet (xTurn (tnAppend (nat_lit 1) g5 g6)) p7 
(oSet (xMove g7) p2 
oEnd)))) kRet)))⟩
def q278 : OpdF := kC (.func (.func (nat_lit 197)) ⟨[]⟩ ⟨[]⟩)
def q279 : OpdF := kC (.func (.func (nat_lit 198)) ⟨[]⟩ ⟨[]⟩)
def q280 : OpdF := kC (.func (.func (nat_lit 199)) ⟨[]⟩ ⟨[]⟩)
noncomputable def k124d0 : KD := 
(dLook (nat_lit 18) [] [(nat_lit 15)] (lkPick g83 q3 g87) p88 (dEnd [(nat_lit 70), (nat_lit 71), (nat_lit 72), (nat_lit 73), (nat_lit 74), (nat_lit 75), (nat_lit 76), (nat_lit 77), (nat_lit 78), (nat_lit 79), (nat_lit 80), (nat_lit 81), (nat_lit 82), (nat_lit 83), (nat_lit 84), (nat_lit 85), (nat_lit 86), (nat_lit 87), (nat_lit 88)]))
noncomputable def k124d1 : KD := 
(dIf [(nat_lit 15)] (wantF g83) p87 (dLook (nat_lit 17) [] [(nat_lit 15)] (lkEq true (.flat [(.int .u8), (.int .u8), (.int .u8), (.int .u8), (.int .u8), (.int .u8), (.int .u8), (.int .u8), (.int .u8), (.int .u8), (.int .u8), (.int .u8), (.int .u8), (.int .u8), (.int .u8), (.int .u8), (.int .u8), (.int .u8), (.int .u8), (.int .u8), (.int .u8), (.int .u8), (.int .u8), (.int .u8), (.int .u8), (.int .u8), (.int .u8), (.int .u8), (.int .u8), (.int .u8), (.int .u8), (.int .u8)]) g85 g86) p87 k124d0) k124d0)
noncomputable def k124d2 : KD := 
(dIf [] (wantF g83) p86 (dLook (nat_lit 16) [(nat_lit 15)] [] (lkLoadN (nat_lit 32) g3) p86 k124d1) k124d1)
noncomputable def k124d3 : KD := 
(dIf [] (wantF g83) p85 (dTurn (nat_lit 15) [] [] true (xCall q65 [g84]) p85 k124d2) k124d2)
noncomputable def k124d4 : KD := 
(dLook (nat_lit 12) [] [] (lkPick g76 q3 g81) p82 
(dLook (nat_lit 13) [] [] (lkMove g82) p83 
(dIf [] (wantF g83) p84 (dLook (nat_lit 14) [] [] (lkMove g12) p84 k124d3) k124d3)))
noncomputable def k124d5 : KD := 
(dIf [] (wantF g76) p81 (dLook (nat_lit 11) [] [] (lkEq true .int g78 g80) p81 k124d4) k124d4)
noncomputable def k124d6 : KD := 
(dIf [] (wantF g76) p80 (dLook (nat_lit 10) [] [] (lkLoad1 g79) p80 k124d5) k124d5)
noncomputable def k124d7 : KD := 
(dIf [] (wantF g76) p79 (dLook (nat_lit 9) [] [] (lkFieldAddr (nat_lit 1) g8) p79 k124d6) k124d6)
noncomputable def k124d8 : KD := 
(dIf [] (wantF g76) p78 (dLook (nat_lit 8) [] [] (lkLen .sl g77) p78 k124d7) k124d7)
noncomputable def k124d9 : KD := 
(dLook (nat_lit 5) [] [] (lkPick g72 q3 g74) p75 
(dLook (nat_lit 6) [] [] (lkMove g75) p76 
(dIf [] (wantF g76) p77 (dLook (nat_lit 7) [] [] (lkMove g12) p77 k124d8) k124d8)))
noncomputable def k124d10 : KD := 
(dIf [] (wantF g72) p74 (dLook (nat_lit 4) [] [] (lkEq true .int g73 q12) p74 k124d9) k124d9)
noncomputable def k124 : KFun := ⟨[rTmp (nat_lit 4) g4, rTmp (nat_lit 5) g5], (kSeq (oSet (xTurn (tnBox g1)) p3 
(oSet (xMove q23) p4 
(oSet (xMove q8) p5 
oEnd))) (kSeq (kSeq (oSet (xMove g0) p13 
(oSet (xCall q278 [g13]) p14 
(oSet (xMove g14) p6 
oEnd))) (kSeq (oSet (xMove g6) p15 
(oSet (xLook (lkEq true .int g15 q8)) p16 
oEnd)) (kCond g16 (kSeq (oSet (xMove g6) p17 
(oSet (xMove q23) p4 
(oSet (xMove g17) p5 
oEnd))) kRet) kSkip))) (kSeq (kSeq (oSet (xMove g0) p18 
(oSet (xLook (lkLoadN (nat_lit 32) g3)) p19 
(oSet (xCall q279 [g18, g19]) p20 
(oSet (xLook (lkUn .not g20)) p21 
oEnd)))) (kCond g21 (kSeq (oSet (xMove q23) p4 
(oSet (xMove q20) p5 
oEnd)) kRet) kSkip)) (kSeq (kSeq (kDraw 
(dLook (nat_lit 0) [] [] (lkMove g0) p22 
(dTurn (nat_lit 1) [] [] false (xNil g22) p23 
(dLook (nat_lit 2) [] [] (lkFieldAddr (nat_lit 0) g23) p24 
(dLook (nat_lit 3) [] [] (lkLoadN (nat_lit 32) g3) p25 
(dTurn (nat_lit 4) [] [] true (xCall q280 [g24, g25]) p26 
(dLook (nat_lit 5) [] [(nat_lit 4)] (lkMove g26) p7 (dEnd [(nat_lit 22), (nat_lit 23), (nat_lit 24), (nat_lit 25), (nat_lit 26), (nat_lit 7)])))))))) (kSeq (oSet (xMove g7) p27 
(oSet (xLook (lkBin .geq g27 q8)) p28 
oEnd)) (kCond g28 (kSeq (oSet (xTurn (tnBuildSlice [] [] (nat_lit 0))) p29 
(oSet (xMove g0) p30 
(oSet (xNil g30) p31 
(oSet (xLook (lkFieldAddr (nat_lit 0) g31)) p32 
(oSet (xLook (lkFieldAddr (nat_lit 0) g32)) p33 
(oSet (xLook (lkLoad1 g33)) p34 
(oSet (xMove g7) p35 
(oSet (xLook (lkIxSl (nat_lit 35) g34 g35)) p36 
(oSet (xLook (lkFieldAddr (nat_lit 34) g36)) p37 
(oSet (xLook (lkLoad1 g37)) p38 
(oSet (xTurn (tnAppend (nat_lit 1) g29 g38)) p39 
(oSet (xMove g39) p4 
(oSet (xMove q8) p5 
oEnd))))))))))))) kRet) kSkip))) (kSeq (kDraw 
(dLook (nat_lit 0) [] [] (lkMove g0) p40 
(dTurn (nat_lit 1) [] [] false (xNil g40) p41 
(dLook (nat_lit 2) [] [] (lkFieldAddr (nat_lit 38) g41) p42 
(dLook (nat_lit 3) [] [] (lkLoad1 g42) p43 
(dLook (nat_lit 4) [] [] (lkLoadN (nat_lit 32) g3) p44 
(dLook (nat_lit 5) [] [] (lkLookup (.many (nat_lit 32) .u8) (.agg ⟨[(.int .i64 (.ofNat (nat_lit 0))), (.int .i64 (.ofNat (nat_lit 0)))]⟩) false g43 g44) p45 
(dTurn (nat_lit 6) [] [] false (xTurn (tnAlloc q35)) p8 
(dTurn (nat_lit 7) [] [] true (xTurn (tnStore (nat_lit 2) g8 g45)) noDst (dEnd [(nat_lit 40), (nat_lit 41), (nat_lit 42), (nat_lit 43), (nat_lit 44), (nat_lit 45), (nat_lit 8)])))))))))) (kSeq (kDraw 
(dLook (nat_lit 0) [] [] (lkMove g0) p47 
(dTurn (nat_lit 1) [] [] false (xNil g47) p48 
(dLook (nat_lit 2) [] [] (lkFieldAddr (nat_lit 2) g48) p49 
(dLook (nat_lit 3) [] [] (lkLoad1 g49) p50 
(dLook (nat_lit 4) [] [] (lkFieldAddr (nat_lit 0) g8) p51 
(dLook (nat_lit 5) [] [] (lkLoad1 g51) p52 
(dLook (nat_lit 6) [] [] (lkLoadN (nat_lit 2) g8) p53 
(dTurn (nat_lit 7) [(nat_lit 3), (nat_lit 5)] [] true (xCall q98 [g53]) p54 
(dTurn (nat_lit 8) [] [(nat_lit 7)] true (xCall q97 [g50, g52, g54]) p55 
(dLook (nat_lit 9) [] [(nat_lit 7), (nat_lit 8)] (lkMove g55) p46 
(dLook (nat_lit 10) [] [(nat_lit 7), (nat_lit 8)] (lkExtract (nat_lit 0) g46) p56 
(dLook (nat_lit 11) [] [(nat_lit 7), (nat_lit 8)] (lkExtract (nat_lit 1) g46) p57 
(dLook (nat_lit 12) [] [(nat_lit 7), (nat_lit 8)] (lkMove g56) p9 
(dLook (nat_lit 13) [] [(nat_lit 7), (nat_lit 8)] (lkMove g57) p10 (dEnd [(nat_lit 47), (nat_lit 48), (nat_lit 49), (nat_lit 50), (nat_lit 51), (nat_lit 52), (nat_lit 53), (nat_lit 54), (nat_lit 55), (nat_lit 46), (nat_lit 56), (nat_lit 57), (nat_lit 9), (nat_lit 10)])))))))))))))))) (kSeq (kSeq (oSet (xMove g10) p58 
(oSet (xLook (lkEq true .int g58 q8)) p59 
oEnd)) (kCond g59 (kSeq (oSet (xMove g0) p60 
(oSet (xNil g60) p61 
(oSet (xLook (lkFieldAddr (nat_lit 39) g61)) p62 
(oDo (xTurn (tnStore (nat_lit 1) g62 q3)) 
oEnd)))) (kSeq (oSet (xMove g10) p63 
(oSet (xMove q23) p4 
(oSet (xMove g63) p5 
oEnd))) kRet)) kSkip)) (kSeq (oSet (xMove g9) p65 
(oSet (xCall q99 [g65]) p66 
(oSet (xMove g66) p64 
(oSet (xLook (lkExtract (nat_lit 0) g64)) p67 
(oSet (xLook (lkExtract (nat_lit 1) g64)) p68 
(oSet (xLook (lkExtract (nat_lit 2) g64)) p69 
(oSet (xMove g67) p11 
(oSet (xMove g68) p12 
(oSet (xMove g69) p10 
oEnd))))))))) (kSeq (kSeq (kDraw 
(dLook (nat_lit 0) [] [] (lkMove g10) p70 
(dLook (nat_lit 1) [] [] (lkEq true .int g70 q8) p71 
(dLook (nat_lit 2) [] [] (lkMove g71) p72 
(dIf [] (wantF g72) p73 (dLook (nat_lit 3) [] [] (lkMove g11) p73 k124d10) k124d10))))) (kCond g88 (kSeq (oSet (xMove q23) p4 
(oSet (xMove q73) p5 
oEnd)) kRet) kSkip)) (kSeq (oSet (xMove g12) p89 
(oSet (xMove g89) p4 
(oSet (xMove q8) p5 
oEnd))) kRet))))))))))⟩
noncomputable def k125 : KFun := ⟨[rCellN (nat_lit 2) g2 (nat_lit 32)], (kSeq (oSet (xTurn (tnAlloc q66)) p2 
oEnd) (kSeq (kSeq (oSet (xMove g0) p3 
(oSet (xCall q278 [g3]) p4 
(oSet (xLook (lkEq true .int g4 q8)) p5 
oEnd))) (kCond g5 (kSeq (oSet (xLook (lkBuild q66 [])) p6 
(oDo (xTurn (tnStore (nat_lit 32) g2 g6)) 
oEnd)) kRet) kSkip)) (kSeq (oSet (xMove g0) p7 
(oSet (xNil g7) p8 
(oSet (xLook (lkFieldAddr (nat_lit 4) g8)) p9 
(oSet (xLook (lkLoadN (nat_lit 32) g9)) p10 
(oDo (xTurn (tnStore (nat_lit 32) g2 g10)) 
oEnd))))) kRet)))⟩
noncomputable def k129 : KFun := ⟨[rCellN (nat_lit 2) g2 (nat_lit 256), rTmp (nat_lit 3) g3], (kSeq (oSet (xTurn (tnAlloc q197)) p2 
(oSet (xMove q0) p3 
oEnd)) (kSeq (kSeq (oSet (xMove q8) p4 
oEnd) (kBlock (nat_lit 0) (kLoop (kSeq (kSeq (oSet (xMove g4) p6 
(oSet (xMove g0) p7 
(oSet (xLook (lkLen .str g7)) p8 
(oSet (xLook (lkBin .lss g6 g8)) p9 
oEnd)))) (kCond g9 kSkip (kExit (nat_lit 0)))) (kSeq (kBlock (nat_lit 1) (kSeq (oSet (xMove g0) p12 
(oSet (xMove g4) p13 
(oSet (xLook (lkIxStr g12 g13)) p14 
(oSet (xMove g14) p5 
oEnd)))) (kSeq (kSeq (oSet (xMove g5) p15 
(oSet (xLook (lkBin .geq g15 q193)) p16 
oEnd)) (kCond g16 (kSeq (oSet (xLook (lkLoadN (nat_lit 256) g2)) p17 
(oDo (xTurn (tnStore (nat_lit 256) g2 g17)) 
(oSet (xMove q0) p3 
oEnd))) kRet) kSkip)) (oSet (xMove g5) p18 
(oSet (xLook (lkIxArr (nat_lit 256) (nat_lit 1) g2 g18)) p19 
(oDo (xTurn (tnStore (nat_lit 1) g19 q3)) 
oEnd)))))) (oSet (xMove g4) p10 
(oSet (xLook (lkBin .add g10 q12)) p11 
(oSet (xMove g11) p4 
oEnd)))))))) (kSeq (oSet (xLook (lkLoadN (nat_lit 256) g2)) p20 
(oDo (xTurn (tnStore (nat_lit 256) g2 g20)) 
(oSet (xMove q3) p3 
oEnd))) kRet)))⟩
def q282 : OpdF := kC (.func (.func (nat_lit 201)) ⟨[]⟩ ⟨[]⟩)
noncomputable def k130 : KFun := ⟨[rTmp (nat_lit 4) g4], (kSeq (oSet (xMove q104) p4 
oEnd) (kSeq (kBlock (nat_lit 0) (kLoop (kSeq (kSeq (oSet (xMove g0) p5 
(oSet (xLook (lkLen .str g5)) p6 
(oSet (xLook (lkBin .gtr g6 q8)) p7 
oEnd))) (kCond g7 kSkip (kExit (nat_lit 0)))) (kBlock (nat_lit 1) (kSeq (kSeq (oSet (xMove g1) p8 
(oSet (xMove g0) p9 
(oSet (xLook (lkIxStr g9 q8)) p10 
(oSet (xCall q282 [g8, g10]) p11 
(oSet (xLook (lkUn .not g11)) p12 
oEnd))))) (kCond g12 (kExit (nat_lit 0)) kSkip)) (oSet (xMove g0) p13 
(oSet (xLook (lkSliceStr g13 (some q12) none)) p14 
(oSet (xMove g14) p0 
oEnd)))))))) (kSeq (oSet (xMove g0) p15 
(oSet (xMove g15) p4 
oEnd)) kRet)))⟩
noncomputable def k131 : KFun := ⟨[rTmp (nat_lit 4) g4], (kSeq (oSet (xMove q104) p4 
oEnd) (kSeq (kBlock (nat_lit 0) (kLoop (kSeq (kSeq (oSet (xMove g0) p5 
(oSet (xLook (lkLen .str g5)) p6 
(oSet (xLook (lkBin .gtr g6 q8)) p7 
oEnd))) (kCond g7 kSkip (kExit (nat_lit 0)))) (kBlock (nat_lit 1) (kSeq (kSeq (oSet (xMove g1) p8 
(oSet (xMove g0) p9 
(oSet (xMove g0) p10 
(oSet (xLook (lkLen .str g10)) p11 
(oSet (xLook (lkBin .sub g11 q12)) p12 
(oSet (xLook (lkIxStr g9 g12)) p13 
(oSet (xCall q282 [g8, g13]) p14 
(oSet (xLook (lkUn .not g14)) p15 
oEnd)))))))) (kCond g15 (kExit (nat_lit 0)) kSkip)) (oSet (xMove g0) p16 
(oSet (xMove g0) p17 
(oSet (xLook (lkLen .str g17)) p18 
(oSet (xLook (lkBin .sub g18 q12)) p19 
(oSet (xLook (lkSliceStr g16 none (some g19))) p20 
(oSet (xMove g20) p0 
oEnd))))))))))) (kSeq (oSet (xMove g0) p21 
(oSet (xMove g21) p4 
oEnd)) kRet)))⟩
noncomputable def k134 : KFun := ⟨[rTmp (nat_lit 2) g2], (kSeq (oSet (xMove q8) p2 
oEnd) (kSeq (kSeq (oSet (xMove g0) p7 
(oSet (xLook (lkLen .sl g7)) p8 
(oSet (xLook (lkBin .gtr g8 q131)) p9 
oEnd))) (kCond g9 (kSeq (oSet (xMove q68) p2 
oEnd) kRet) kSkip)) (kSeq (kSeq (oSet (xMove g0) p10 
(oSet (xLook (lkLen .sl g10)) p11 
(oSet (xMove q8) p12 
oEnd))) (kBlock (nat_lit 0) (kLoop (kSeq (oSet (xLook (lkBin .lss g12 g11)) p13 
oEnd) (kSeq (kCond g13 kSkip (kExit (nat_lit 0))) (kSeq (kBlock (nat_lit 1) (kSeq (oSet (xLook (lkIxSl (nat_lit 1) g10 g12)) p14 
(oSet (xLook (lkLoad1 g14)) p15 
(oSet (xMove g15) p4 
oEnd))) (kSeq (oSet (xMove g4) p17 
(oSet (xCall q132 [g17]) p18 
(oSet (xMove g18) p16 
(oSet (xLook (lkExtract (nat_lit 0) g16)) p19 
(oSet (xLook (lkExtract (nat_lit 1) g16)) p20 
(oSet (xMove g19) p5 
(oSet (xMove g20) p6 
oEnd))))))) (kSeq (oSet (xMove g5) p21 
(oSet (xLook (lkEq true .int g21 q8)) p22 
oEnd)) (kCond g22 (kSeq (oSet (xMove g5) p23 
(oSet (xMove g23) p2 
oEnd)) kRet) kSkip))))) (oSet (xLook (lkBin .add g12 q12)) p24 
(oSet (xMove g24) p12 
oEnd)))))))) (kSeq (oSet (xMove q8) p2 
oEnd) kRet))))⟩
def q287 : List Value := [(.string ⟨⟨[]⟩⟩), (.string ⟨⟨[]⟩⟩)]
noncomputable def k135d0 : KD := 
(dLook (nat_lit 24) [] [(nat_lit 2)] (lkPick g25 q3 g38) p39 (dEnd [(nat_lit 15), (nat_lit 16), (nat_lit 17), (nat_lit 18), (nat_lit 19), (nat_lit 20), (nat_lit 21), (nat_lit 22), (nat_lit 23), (nat_lit 24), (nat_lit 25), (nat_lit 26), (nat_lit 27), (nat_lit 28), (nat_lit 29), (nat_lit 30), (nat_lit 31), (nat_lit 32), (nat_lit 33), (nat_lit 34), (nat_lit 35), (nat_lit 36), (nat_lit 37), (nat_lit 38), (nat_lit 39)]))
noncomputable def k135d1 : KD := 
(dIf [(nat_lit 2)] (wantF g25) p38 (dLook (nat_lit 23) [] [(nat_lit 2)] (lkPick g28 g37 q0) p38 k135d0) k135d0)
noncomputable def k135d2 : KD := 
(dIf [(nat_lit 2)] (wantT g28) p37 (dLook (nat_lit 22) [] [(nat_lit 2)] (lkBin .leq g30 g36) p37 k135d1) k135d1)
noncomputable def k135d3 : KD := 
(dIf [(nat_lit 2)] (wantT g28) p36 (dLook (nat_lit 21) [] [(nat_lit 2)] (lkLoad1 g35) p36 k135d2) k135d2)
noncomputable def k135d4 : KD := 
(dIf [(nat_lit 2)] (wantT g28) p35 (dLook (nat_lit 20) [] [(nat_lit 2)] (lkFieldAddr (nat_lit 0) g34) p35 k135d3) k135d3)
noncomputable def k135d5 : KD := 
(dIf [(nat_lit 2)] (wantT g28) p34 (dLook (nat_lit 19) [] [(nat_lit 2)] (lkIxSl (nat_lit 2) g31 g33) p34 k135d4) k135d4)
noncomputable def k135d6 : KD := 
(dIf [(nat_lit 2)] (wantT g28) p33 (dLook (nat_lit 18) [] [(nat_lit 2)] (lkBin .sub g32 q12) p33 k135d5) k135d5)
noncomputable def k135d7 : KD := 
(dIf [(nat_lit 2)] (wantT g28) p32 (dLook (nat_lit 17) [] [(nat_lit 2)] (lkMove g3) p32 k135d6) k135d6)
noncomputable def k135d8 : KD := 
(dIf [(nat_lit 2)] (wantT g28) p31 (dLook (nat_lit 16) [] [(nat_lit 2)] (lkMove g0) p31 k135d7) k135d7)
noncomputable def k135d9 : KD := 
(dIf [(nat_lit 2)] (wantT g28) p30 (dLook (nat_lit 15) [] [(nat_lit 2)] (lkLoad1 g29) p30 k135d8) k135d8)
noncomputable def k135d10 : KD := 
(dIf [(nat_lit 2)] (wantT g28) p29 (dLook (nat_lit 14) [] [(nat_lit 2)] (lkFieldAddr (nat_lit 0) g4) p29 k135d9) k135d9)
noncomputable def k135d11 : KD := 
(dIf [(nat_lit 2)] (wantF g25) p28 (dLook (nat_lit 13) [] [(nat_lit 2)] (lkMove g27) p28 k135d10) k135d10)
noncomputable def k135d12 : KD := 
(dIf [(nat_lit 2)] (wantF g25) p27 (dLook (nat_lit 12) [] [(nat_lit 2)] (lkBin .gtr g26 q8) p27 k135d11) k135d11)
noncomputable def k135d13 : KD := 
(dLook (nat_lit 9) [] [(nat_lit 2)] (lkPick g19 q3 g23) p24 
(dLook (nat_lit 10) [] [(nat_lit 2)] (lkMove g24) p25 
(dIf [(nat_lit 2)] (wantF g25) p26 (dLook (nat_lit 11) [] [(nat_lit 2)] (lkMove g3) p26 k135d12) k135d12)))
noncomputable def k135d14 : KD := 
(dIf [(nat_lit 2)] (wantF g19) p23 (dLook (nat_lit 8) [] [(nat_lit 2)] (lkBin .gtr g22 q180) p23 k135d13) k135d13)
noncomputable def k135d15 : KD := 
(dIf [(nat_lit 2)] (wantF g19) p22 (dLook (nat_lit 7) [] [(nat_lit 2)] (lkLen .str g21) p22 k135d14) k135d14)
noncomputable def k135d16 : KD := 
(dIf [(nat_lit 2)] (wantF g19) p21 (dLook (nat_lit 6) [] [(nat_lit 2)] (lkLoad1 g20) p21 k135d15) k135d15)
def q288 : OpdF := kC (.func (.func (nat_lit 205)) ⟨[]⟩ ⟨[]⟩)
noncomputable def k135 : KFun := ⟨[rTmp (nat_lit 2) g2], (kSeq (oSet (xMove q8) p2 
oEnd) (kSeq (kSeq (oSet (xMove g0) p5 
(oSet (xLook (lkLen .sl g5)) p6 
(oSet (xLook (lkBin .gtr g6 q85)) p7 
oEnd))) (kCond g7 (kSeq (oSet (xMove q68) p2 
oEnd) kRet) kSkip)) (kSeq (kSeq (oSet (xMove g0) p8 
(oSet (xLook (lkLen .sl g8)) p9 
(oSet (xMove q8) p10 
oEnd))) (kBlock (nat_lit 0) (kLoop (kSeq (oSet (xLook (lkBin .lss g10 g9)) p11 
oEnd) (kSeq (kCond g11 kSkip (kExit (nat_lit 0))) (kSeq (kBlock (nat_lit 1) (kSeq (oSet (xMove g10) p12 
(oSet (xLook (lkIxSl (nat_lit 2) g8 g10)) p13 
(oSet (xLook (lkLoadN (nat_lit 2) g13)) p14 
(oSet (xTurn (tnAlloc q287)) p4 
(oSet (xMove g12) p3 
(oDo (xTurn (tnStore (nat_lit 2) g4 g14)) 
oEnd)))))) (kSeq (kDraw 
(dLook (nat_lit 0) [] [] (lkFieldAddr (nat_lit 0) g4) p15 
(dLook (nat_lit 1) [] [] (lkLoad1 g15) p16 
(dTurn (nat_lit 2) [] [] true (xCall q288 [g16]) p17 
(dLook (nat_lit 3) [] [(nat_lit 2)] (lkUn .not g17) p18 
(dLook (nat_lit 4) [] [(nat_lit 2)] (lkMove g18) p19 
(dIf [(nat_lit 2)] (wantF g19) p20 (dLook (nat_lit 5) [] [(nat_lit 2)] (lkFieldAddr (nat_lit 1) g4) p20 k135d16) k135d16))))))) (kCond g39 (kSeq (oSet (xMove q9) p2 
oEnd) kRet) kSkip)))) (oSet (xLook (lkBin .add g10 q12)) p40 
(oSet (xMove g40) p10 
oEnd)))))))) (kSeq (oSet (xMove q8) p2 
oEnd) kRet))))⟩
noncomputable def k136 : KFun := ⟨[rTmp (nat_lit 4) g4], (kSeq (oSet (xTurn (tnBox g0)) p2 
(oSet (xTurn (tnBox g1)) p3 
(oSet (xMove q53) p4 
oEnd))) (kSeq (oSet (xLook (lkMkFunc (.func (nat_lit 206)) [] [g3, g2])) p5 
(oSet (xMove g5) p4 
oEnd)) kRet))⟩
noncomputable def k137 : KFun := ⟨[rTmp (nat_lit 2) g2], (kSeq (oSet (xMove q0) p2 
oEnd) (kSeq (oSet (xMove g0) p6 
(oSet (xLook (lkBuild q66 [])) p7 
(oSet (xCall q190 [g6, g7]) p8 
(oSet (xMove g8) p5 
(oSet (xLook (lkExtract (nat_lit 0) g5)) p9 
(oSet (xLook (lkExtract (nat_lit 1) g5)) p10 
(oSet (xMove g9) p3 
(oSet (xMove g10) p4 
oEnd)))))))) (kSeq (oSet (xMove g4) p11 
(oSet (xLook (lkEq false .int g11 q12)) p12 
(oSet (xMove g12) p2 
oEnd))) kRet)))⟩
def q289 : OpdF := kC (.func (.func (nat_lit 208)) ⟨[]⟩ ⟨[]⟩)
noncomputable def k138 : KFun := ⟨[rTmp (nat_lit 4) g4], (kSeq (oSet (xMove q0) p4 
oEnd) (kSeq (oSet (xMove g0) p5 
(oSet (xMove g1) p6 
(oSet (xCall q289 [g5, g6]) p7 
(oSet (xLook (lkBin .geq g7 q8)) p8 
(oSet (xMove g8) p4 
oEnd))))) kRet))⟩
noncomputable def k139 : KFun := ⟨[rTmp (nat_lit 2) g2], (kSeq (oSet (xMove q0) p2 
oEnd) (kSeq (oSet (xMove g0) p3 
(oSet (xLook (lkLen .str g3)) p4 
(oSet (xLook (lkBin .gtr g4 q44)) p5 
(oSet (xMove g5) p2 
oEnd)))) kRet))⟩
def q290 : OpdF := kC (.func (.func (nat_lit 209)) ⟨[]⟩ ⟨[]⟩)
noncomputable def k140 : KFun := ⟨[rTmp (nat_lit 6) g6], (kSeq (oSet (xMove q23) p6 
oEnd) (kSeq (oSet (xMove q23) p7 
oEnd) (kSeq (oSet (xMove q8) p8 
oEnd) (kSeq (kSeq (oSet (xMove g0) p11 
(oSet (xLook (lkLen .sl g11)) p12 
(oSet (xMove q8) p13 
oEnd))) (kBlock (nat_lit 0) (kLoop (kSeq (oSet (xLook (lkBin .lss g13 g12)) p14 
oEnd) (kSeq (kCond g14 kSkip (kExit (nat_lit 0))) (kSeq (kBlock (nat_lit 1) (kSeq (oSet (xMove g13) p15 
(oSet (xLook (lkIxSl (nat_lit 1) g11 g13)) p16 
(oSet (xLook (lkLoad1 g16)) p17 
(oSet (xMove g15) p9 
(oSet (xMove g17) p10 
oEnd))))) (kSeq (oSet (xMove g1) p18 
(oSet (xMove g9) p19 
(oSet (xLook (lkBin .add g19 q12)) p20 
(oSet (xMove g8) p21 
(oSet (xLook (lkBin .sub g20 g21)) p22 
(oSet (xMove g2) p23 
(oSet (xMove g10) p24 
(oSet (xCall g23 [g24]) p25 
(oSet (xCall q290 [g18, g22, g25]) p26 
(oSet (xMove g26) p27 
(oSetIf (wantF g27) (xMove g9) p28 
(oSetIf (wantF g27) (xMove g0) p29 
(oSetIf (wantF g27) (xLook (lkLen .sl g29)) p30 
(oSetIf (wantF g27) (xLook (lkBin .sub g30 q12)) p31 
(oSetIf (wantF g27) (xLook (lkEq false .int g28 g31)) p32 
(oSet (xLook (lkPick g27 q3 g32)) p33 
oEnd)))))))))))))))) (kCond g33 (kSeq (oSet (xMove g7) p34 
(oSet (xMove g0) p35 
(oSet (xMove g8) p36 
(oSet (xMove g9) p37 
(oSet (xLook (lkBin .add g37 q12)) p38 
(oSet (xLook (lkSliceSl (nat_lit 1) g35 (some g36) (some g38) none)) p39 
(oSet (xTurn (tnBuildSlice q14 [((nat_lit 0), (nat_lit 1), g39)] (nat_lit 1))) p40 
(oSet (xTurn (tnAppend (nat_lit 1) g34 g40)) p41 
(oSet (xMove g41) p7 
oEnd))))))))) (oSet (xMove g9) p42 
(oSet (xLook (lkBin .add g42 q12)) p43 
(oSet (xMove g43) p8 
oEnd)))) kSkip)))) (oSet (xLook (lkBin .add g13 q12)) p44 
(oSet (xMove g44) p13 
oEnd)))))))) (kSeq (oSet (xMove g7) p45 
(oSet (xMove g45) p6 
oEnd)) kRet)))))⟩
noncomputable def k141 : KFun := ⟨[rCellN (nat_lit 2) g2 (nat_lit 32)], (kSeq (oSet (xTurn (tnAlloc q66)) p2 
oEnd) (kSeq (oSet (xMove g0) p3 
(oSet (xTurn (tnToBytes g3)) p4 
(oSet (xCall q65 [g4]) p5 
(oDo (xTurn (tnStore (nat_lit 32) g2 g5)) 
oEnd)))) kRet))⟩
def q291 : OpdF := kC (.func (.func (nat_lit 210)) ⟨[]⟩ ⟨[]⟩)
def q292 : List Value := [(.int .u8 (.ofNat (nat_lit 0))), (.int .u8 (.ofNat (nat_lit 0))), (.int .u8 (.ofNat (nat_lit 0))), (.int .u8 (.ofNat (nat_lit 0))), (.int .u8 (.ofNat (nat_lit 0))), (.int .u8 (.ofNat (nat_lit 0))), (.int .u8 (.ofNat (nat_lit 0))), (.int .u8 (.ofNat (nat_lit 0))), (.int .u8 (.ofNat (nat_lit 0))), (.int .u8 (.ofNat (nat_lit 0))), (.int .u8 (.ofNat (nat_lit 0))), (.int .u8 (.ofNat (nat_lit 0))), (.int .u8 (.ofNat (nat_lit 0))), (.int .u8 (.ofNat (nat_lit 0))), (.int .u8 (.ofNat (nat_lit 0))), (.int .u8 (.ofNat (nat_lit 0))), (.int .u8 (.ofNat (nat_lit 0))), (.int .u8 (.ofNat (nat_lit 0))), (.int .u8 (.ofNat (nat_lit 0))), (.int .u8 (.ofNat (nat_lit 0))), (.int .u8 (.ofNat (nat_lit 0))), (.int .u8 (.ofNat (nat_lit 0))), (.int .u8 (.ofNat (nat_lit 0))), (.int .u8 (.ofNat (nat_lit 0))), (.int .u8 (.ofNat (nat_lit 0))), (.int .u8 (.ofNat (nat_lit 0))), (.int .u8 (.ofNat (nat_lit 0))), (.int .u8 (.ofNat (nat_lit 0))), (.int .u8 (.ofNat (nat_lit 0))), (.int .u8 (.ofNat (nat_lit 0))), (.int .u8 (.ofNat (nat_lit 0))), (.int .u8 (.ofNat (nat_lit 0))), (.int .i64 (.ofNat (nat_lit 0)))]
def q293 : OpdF := kC (.func (.func (nat_lit 211)) ⟨[]⟩ ⟨[]⟩)
def q294 : OpdF := kC (.func (.func (nat_lit 212)) ⟨[]⟩ ⟨[]⟩)
noncomputable def k142 : KFun := ⟨[rCellN (nat_lit 4) g4 (nat_lit 32), rTmp (nat_lit 5) g5], (kSeq (oSet (xTurn (tnAlloc q66)) p4 
(oSet (xMove q8) p5 
oEnd)) (kSeq (oSet (xMove q23) p6 
oEnd) (kSeq (kSeq (oSet (xMove g1) p15 
(oSet (xLook (lkLen .sl g15)) p16 
(oSet (xMove q8) p17 
oEnd))) (kBlock (nat_lit 0) (kLoop (kSeq (oSet (xLook (lkBin .lss g17 g16)) p18 
oEnd) (kSeq (kCond g18 kSkip (kExit (nat_lit 0))) (kSeq (kBlock (nat_lit 1) (kSeq (oSet (xLook (lkIxSl (nat_lit 3) g15 g17)) p19 
(oSet (xLook (lkLoadN (nat_lit 3) g19)) p20 
(oSet (xTurn (tnAlloc q214)) p8 
(oDo (xTurn (tnStore (nat_lit 3) g8 g20)) 
oEnd)))) (kSeq (oSet (xLook (lkLoadN (nat_lit 3) g8)) p22 
(oSet (xMove g0) p23 
(oSet (xCall q291 [g22, g23]) p24 
(oSet (xMove g24) p21 
(oSet (xLook (lkExtract (nat_lit 0) g21)) p25 
(oSet (xLook (lkExtract (nat_lit 1) g21)) p26 
(oSet (xTurn (tnAlloc q292)) p9 
(oDo (xTurn (tnStore (nat_lit 33) g9 g25)) 
(oSet (xMove g26) p10 
oEnd))))))))) (kSeq (kSeq (oSet (xMove g10) p27 
(oSet (xLook (lkEq true .int g27 q8)) p28 
oEnd)) (kCond g28 (kSeq (oSet (xLook (lkBuild q66 [])) p29 
(oSet (xMove g10) p30 
(oDo (xTurn (tnStore (nat_lit 32) g4 g29)) 
(oSet (xMove g30) p5 
oEnd)))) kRet) kSkip)) (oSet (xMove g6) p31 
(oSet (xLook (lkLoadN (nat_lit 33) g9)) p32 
(oSet (xTurn (tnBuildSlice q292 [((nat_lit 0), (nat_lit 33), g32)] (nat_lit 1))) p33 
(oSet (xTurn (tnAppend (nat_lit 33) g31 g33)) p34 
(oSet (xMove g34) p6 
oEnd))))))))) (oSet (xLook (lkBin .add g17 q12)) p35 
(oSet (xMove g35) p17 
oEnd)))))))) (kSeq (kSeq (oSet (xMove g6) p36 
(oSet (xLook (lkLen .sl g36)) p37 
(oSet (xLook (lkEq false .int g37 q12)) p38 
oEnd))) (kCond g38 (kSeq (oSet (xMove g6) p39 
(oSet (xLook (lkIxSl (nat_lit 33) g39 q8)) p40 
(oSet (xLook (lkFieldAddr (nat_lit 0) g40)) p41 
(oSet (xLook (lkLoadN (nat_lit 32) g41)) p42 
(oDo (xTurn (tnStore (nat_lit 32) g4 g42)) 
(oSet (xMove q8) p5 
oEnd)))))) kRet) kSkip)) (kSeq (oSet (xMove g1) p43 
(oSet (xLook (lkIxSl (nat_lit 3) g43 q8)) p44 
(oSet (xLook (lkFieldAddr (nat_lit 0) g44)) p45 
(oSet (xLook (lkLoad1 g45)) p46 
(oSet (xLook (lkBin .add g46 q12)) p47 
(oSet (xMove g47) p11 
oEnd)))))) (kSeq (oSet (xMove q23) p12 
oEnd) (kSeq (kSeq (oSet (xMove g6) p48 
(oSet (xMove g11) p49 
(oSet (xCall q293 [g48, g49, q294]) p50 
(oSet (xLook (lkLen .sl g50)) p51 
(oSet (xMove q8) p52 
oEnd))))) (kBlock (nat_lit 2) (kLoop (kSeq (oSet (xLook (lkBin .lss g52 g51)) p53 
oEnd) (kSeq (kCond g53 kSkip (kExit (nat_lit 2))) (kSeq (kBlock (nat_lit 3) (kSeq (oSet (xLook (lkIxSl (nat_lit 1) g50 g52)) p54 
(oSet (xLook (lkLoad1 g54)) p55 
(oSet (xMove g55) p14 
oEnd))) (oSet (xMove g12) p56 
(oSet (xMove g11) p57 
(oSet (xMove g14) p58 
(oSet (xLook (lkBuild q214 [((nat_lit 0), (nat_lit 1), g57), ((nat_lit 2), (nat_lit 1), g58)])) p59 
(oSet (xTurn (tnBuildSlice q214 [((nat_lit 0), (nat_lit 3), g59)] (nat_lit 1))) p60 
(oSet (xTurn (tnAppend (nat_lit 3) g56 g60)) p61 
(oSet (xMove g61) p12 
oEnd))))))))) (oSet (xLook (lkBin .add g52 q12)) p62 
(oSet (xMove g62) p52 
oEnd)))))))) (kSeq (oSet (xMove g0) p63 
(oSet (xMove g12) p64 
(oSet (xCall q215 [g63, g64]) p65 
(oSet (xLook (lkExtract (nat_lit 0) g65)) p66 
(oSet (xLook (lkExtract (nat_lit 1) g65)) p67 
(oDo (xTurn (tnStore (nat_lit 32) g4 g66)) 
(oSet (xMove g67) p5 
oEnd))))))) kRet))))))))⟩
noncomputable def k143 : KFun := ⟨[rTmp (nat_lit 2) g2], (kSeq (oSet (xMove q0) p2 
oEnd) (kSeq (oSet (xMove g0) p6 
(oSet (xLook (lkBuild q66 [])) p7 
(oSet (xCall q190 [g6, g7]) p8 
(oSet (xMove g8) p5 
(oSet (xLook (lkExtract (nat_lit 0) g5)) p9 
(oSet (xLook (lkExtract (nat_lit 1) g5)) p10 
(oSet (xMove g9) p3 
(oSet (xMove g10) p4 
oEnd)))))))) (kSeq (oSet (xMove g4) p11 
(oSet (xLook (lkEq true .int g11 q12)) p12 
(oSet (xMove g12) p2 
oEnd))) kRet)))⟩
noncomputable def k144 : KFun := ⟨[rTmp (nat_lit 4) g4, rTmp (nat_lit 5) g5], (kSeq (oSet (xMove q23) p4 
(oSet (xMove q8) p5 
oEnd)) (kSeq (oSet (xMove q23) p6 
oEnd) (kSeq (kSeq (oSet (xMove g0) p11 
(oSet (xLook (lkLen .sl g11)) p12 
(oSet (xMove q8) p13 
oEnd))) (kBlock (nat_lit 0) (kLoop (kSeq (oSet (xLook (lkBin .lss g13 g12)) p14 
oEnd) (kSeq (kCond g14 kSkip (kExit (nat_lit 0))) (kSeq (kBlock (nat_lit 1) (kSeq (oSet (xLook (lkIxSl (nat_lit 5) g11 g13)) p15 
(oSet (xLook (lkLoadN (nat_lit 5) g15)) p16 
(oSet (xTurn (tnAlloc q223)) p8 
(oDo (xTurn (tnStore (nat_lit 5) g8 g16)) 
oEnd)))) (kSeq (oSet (xMove g1) p18 
(oSet (xLook (lkLoadN (nat_lit 5) g8)) p19 
(oSet (xCall g18 [g19]) p20 
(oSet (xMove g20) p17 
(oSet (xLook (lkExtract (nat_lit 0) g17)) p21 
(oSet (xLook (lkExtract (nat_lit 1) g17)) p22 
(oSet (xMove g21) p9 
(oSet (xMove g22) p10 
oEnd)))))))) (kSeq (kSeq (oSet (xMove g10) p23 
(oSet (xLook (lkEq true .int g23 q8)) p24 
oEnd)) (kCond g24 (kSeq (oSet (xMove g10) p25 
(oSet (xMove q23) p4 
(oSet (xMove g25) p5 
oEnd))) kRet) kSkip)) (oSet (xMove g6) p26 
(oSet (xMove g9) p27 
(oSet (xLook (lkBytesTo g27)) p28 
(oSet (xTurn (tnBuildSlice q17 [((nat_lit 0), (nat_lit 1), g28)] (nat_lit 1))) p29 
(oSet (xTurn (tnAppend (nat_lit 1) g26 g29)) p30 
(oSet (xMove g30) p6 
oEnd)))))))))) (oSet (xLook (lkBin .add g13 q12)) p31 
(oSet (xMove g31) p13 
oEnd)))))))) (kSeq (oSet (xMove g6) p32 
(oSet (xMove g32) p4 
(oSet (xMove q8) p5 
oEnd))) kRet))))⟩
def q295 : OpdF := kC (.func (.func (nat_lit 213)) ⟨[]⟩ ⟨[]⟩)
def q296 : OpdF := kC (.func (.func (nat_lit 214)) ⟨[]⟩ ⟨[]⟩)
def q297 : OpdF := kC (.func (.func (nat_lit 216)) ⟨[]⟩ ⟨[]⟩)
noncomputable def k145 : KFun := ⟨[rTmp (nat_lit 2) g2, rTmp (nat_lit 3) g3], (kSeq (oSet (xTurn (tnBox g0)) p1 
(oSet (xMove q23) p2 
(oSet (xMove q8) p3 
oEnd))) (kSeq (kSeq (oSet (xLook (lkLoadN (nat_lit 5) g1)) p6 
(oSet (xCall q224 [g6]) p7 
(oSet (xMove g7) p4 
oEnd))) (kSeq (oSet (xMove g4) p8 
(oSet (xLook (lkEq true .int g8 q8)) p9 
oEnd)) (kCond g9 (kSeq (oSet (xMove g4) p10 
(oSet (xMove q23) p2 
(oSet (xMove g10) p3 
oEnd))) kRet) kSkip))) (kSeq (oSet (xCall q135 []) p11 
(oSet (xLook (lkBuild q102 [((nat_lit 0), (nat_lit 1), g11)])) p12 
(oSet (xTurn (tnAlloc q102)) p5 
(oDo (xTurn (tnStore (nat_lit 1) g5 g12)) 
oEnd)))) (kSeq (oSet (xLook (lkFieldAddr (nat_lit 0) g5)) p13 
(oSet (xLook (lkLoad1 g13)) p14 
(oSet (xLook (lkFieldAddr (nat_lit 0) g1)) p15 
(oSet (xLook (lkLoad1 g15)) p16 
(oSet (xCall q137 [g14, g16]) p17 
oEnd))))) (kSeq (oSet (xLook (lkFieldAddr (nat_lit 0) g5)) p18 
(oSet (xLook (lkLoad1 g18)) p19 
(oSet (xLook (lkFieldAddr (nat_lit 1) g1)) p20 
(oSet (xLook (lkLoad1 g20)) p21 
(oSet (xCall q137 [g19, g21]) p22 
oEnd))))) (kSeq (oSet (xLook (lkLoadN (nat_lit 1) g5)) p23 
(oSet (xLook (lkFieldAddr (nat_lit 2) g1)) p24 
(oSet (xLook (lkLoad1 g24)) p25 
(oSet (xLook (lkFieldAddr (nat_lit 0) g5)) p26 
(oSet (xLook (lkLoad1 g26)) p27 
(oSet (xLook (lkMkFunc (.func (nat_lit 48)) [g27] [])) p28 
(oSet (xCall q295 [g23, g25, g28]) p29 
oEnd))))))) (kSeq (oSet (xLook (lkLoadN (nat_lit 1) g5)) p30 
(oSet (xLook (lkFieldAddr (nat_lit 3) g1)) p31 
(oSet (xLook (lkLoad1 g31)) p32 
(oSet (xLook (lkLoadN (nat_lit 1) g5)) p33 
(oSet (xLook (lkMkFunc (.func (nat_lit 215)) [g33] [])) p34 
(oSet (xCall q296 [g30, g32, g34]) p35 
oEnd)))))) (kSeq (oSet (xLook (lkLoadN (nat_lit 1) g5)) p36 
(oSet (xLook (lkFieldAddr (nat_lit 4) g1)) p37 
(oSet (xLook (lkLoad1 g37)) p38 
(oSet (xLook (lkLoadN (nat_lit 1) g5)) p39 
(oSet (xLook (lkMkFunc (.func (nat_lit 217)) [g39] [])) p40 
(oSet (xCall q297 [g36, g38, g40]) p41 
oEnd)))))) (kSeq (oSet (xLook (lkFieldAddr (nat_lit 0) g5)) p42 
(oSet (xLook (lkLoad1 g42)) p43 
(oSet (xCall q136 [g43]) p44 
(oSet (xLook (lkExtract (nat_lit 0) g44)) p45 
(oSet (xLook (lkExtract (nat_lit 1) g44)) p46 
(oSet (xMove g45) p2 
(oSet (xMove g46) p3 
oEnd))))))) kRet)))))))))⟩
noncomputable def k146 : KFun := ⟨[rTmp (nat_lit 2) g2], (kSeq (oSet (xMove q0) p2 
oEnd) (kSeq (oSet (xMove g0) p3 
(oSet (xLook (lkBin .geq g3 q8)) p4 
(oSet (xMove g4) p5 
(oSetIf (wantT g5) (xMove g0) p6 
(oSetIf (wantT g5) (xLook (lkBin .leq g6 q131)) p7 
(oSet (xLook (lkPick g5 g7 q0)) p8 
(oSet (xMove g8) p2 
oEnd))))))) kRet))⟩
def q298 : OpdF := kC (.func (.func (nat_lit 218)) ⟨[]⟩ ⟨[]⟩)
noncomputable def k147 : KFun := ⟨[rTmp (nat_lit 0) g0], (kSeq (oSet (xMove q53) p0 
oEnd) (kSeq (oSet (xMove q298) p0 
oEnd) kRet))⟩
def q299 : OpdF := kC (.int .i64 (.ofNat (nat_lit 200)))
def q300 : OpdF := kC (.func (.func (nat_lit 219)) ⟨[]⟩ ⟨[]⟩)
def q301 : OpdF := kC (.func (.func (nat_lit 220)) ⟨[]⟩ ⟨[]⟩)
def q302 : OpdF := kC (.func (.func (nat_lit 221)) ⟨[]⟩ ⟨[]⟩)
def q303 : List Value := [(.string ⟨⟨[]⟩⟩), (.string ⟨⟨[]⟩⟩), (.bool false)]
def q304 : OpdF := kC (.func (.func (nat_lit 222)) ⟨[]⟩ ⟨[]⟩)
noncomputable def k148 : KFun := ⟨[rTmp (nat_lit 2) g2], (kSeq (oSet (xTurn (tnBox g0)) p1 
(oSet (xMove q8) p2 
oEnd)) (kSeq (kSeq (oSet (xLook (lkFieldAddr (nat_lit 2) g1)) p8 
(oSet (xLook (lkLoad1 g8)) p9 
(oSet (xLook (lkLen .sl g9)) p10 
(oSet (xLook (lkFieldAddr (nat_lit 3) g1)) p11 
(oSet (xLook (lkLoad1 g11)) p12 
(oSet (xLook (lkLen .sl g12)) p13 
(oSet (xLook (lkBin .add g10 g13)) p14 
(oSet (xLook (lkFieldAddr (nat_lit 4) g1)) p15 
(oSet (xLook (lkLoad1 g15)) p16 
(oSet (xLook (lkLen .sl g16)) p17 
(oSet (xLook (lkBin .add g14 g17)) p18 
(oSet (xLook (lkBin .gtr g18 q250)) p19 
oEnd)))))))))))) (kCond g19 (kSeq (oSet (xMove q68) p2 
oEnd) kRet) kSkip)) (kSeq (oSet (xLook (lkFieldAddr (nat_lit 0) g1)) p20 
(oSet (xLook (lkLoad1 g20)) p21 
(oSet (xLook (lkBin .geq g21 q8)) p22 
(oSet (xMove g22) p23 
(oSetIf (wantT g23) (xLook (lkFieldAddr (nat_lit 0) g1)) p24 
(oSetIf (wantT g23) (xLook (lkLoad1 g24)) p25 
(oSetIf (wantT g23) (xLook (lkBin .leq g25 q68)) p26 
(oSet (xLook (lkPick g23 g26 q0)) p27 
(oSet (xMove g27) p28 
(oSetIf (wantT g28) (xLook (lkFieldAddr (nat_lit 1) g1)) p29 
(oSetIf (wantT g28) (xLook (lkLoad1 g29)) p30 
(oSetIf (wantT g28) (xLook (lkBin .geq g30 q8)) p31 
(oSet (xLook (lkPick g28 g31 q0)) p32 
(oSet (xMove g32) p33 
(oSetIf (wantT g33) (xLook (lkFieldAddr (nat_lit 1) g1)) p34 
(oSetIf (wantT g33) (xLook (lkLoad1 g34)) p35 
(oSetIf (wantT g33) (xLook (lkBin .leq g35 q299)) p36 
(oSet (xLook (lkPick g33 g36 q0)) p37 
(oSet (xMove g37) p38 
(oSetIf (wantT g38) (xLook (lkFieldAddr (nat_lit 2) g1)) p39 
(oSetIf (wantT g38) (xLook (lkLoad1 g39)) p40 
(oSetIf (wantT g38) (xCall q300 [g40]) p41 
(oSet (xLook (lkPick g38 g41 q0)) p42 
(oSet (xMove g42) p43 
(oSetIf (wantT g43) (xLook (lkLoadN (nat_lit 5) g1)) p44 
(oSetIf (wantT g43) (xCall q301 [g44]) p45 
(oSetIf (wantT g43) (xCall q300 [g45]) p46 
(oSet (xLook (lkPick g43 g46 q0)) p47 
(oSet (xMove g47) p48 
(oSetIf (wantT g48) (xLook (lkFieldAddr (nat_lit 3) g1)) p49 
(oSetIf (wantT g48) (xLook (lkLoad1 g49)) p50 
(oSetIf (wantT g48) (xCall q302 [g50]) p51 
(oSet (xLook (lkPick g48 g51 q0)) p52 
(oSet (xMove g52) p3 
oEnd)))))))))))))))))))))))))))))))))) (kSeq (kSeq (oSet (xLook (lkFieldAddr (nat_lit 2) g1)) p53 
(oSet (xLook (lkLoad1 g53)) p54 
(oSet (xLook (lkLen .sl g54)) p55 
(oSet (xMove q8) p56 
oEnd)))) (kBlock (nat_lit 0) (kLoop (kSeq (oSet (xLook (lkBin .lss g56 g55)) p57 
oEnd) (kSeq (kCond g57 kSkip (kExit (nat_lit 0))) (kSeq (kBlock (nat_lit 1) (kSeq (oSet (xLook (lkIxSl (nat_lit 1) g54 g56)) p58 
(oSet (xLook (lkLoad1 g58)) p59 
(oSet (xMove g59) p5 
oEnd))) (oSet (xMove g3) p60 
(oSet (xMove g60) p61 
(oSetIf (wantT g61) (xMove g5) p62 
(oSetIf (wantT g61) (xCall q288 [g62]) p63 
(oSet (xLook (lkPick g61 g63 q0)) p64 
(oSet (xMove g64) p3 
oEnd)))))))) (oSet (xLook (lkBin .add g56 q12)) p65 
(oSet (xMove g65) p56 
oEnd)))))))) (kSeq (kSeq (oSet (xLook (lkFieldAddr (nat_lit 4) g1)) p66 
(oSet (xLook (lkLoad1 g66)) p67 
(oSet (xLook (lkLen .sl g67)) p68 
(oSet (xMove q8) p69 
oEnd)))) (kBlock (nat_lit 2) (kLoop (kSeq (oSet (xLook (lkBin .lss g69 g68)) p70 
oEnd) (kSeq (kCond g70 kSkip (kExit (nat_lit 2))) (kSeq (kBlock (nat_lit 3) (kSeq (oSet (xLook (lkIxSl (nat_lit 3) g67 g69)) p71 
(oSet (xLook (lkLoadN (nat_lit 3) g71)) p72 
(oSet (xTurn (tnAlloc q303)) p7 
(oDo (xTurn (tnStore (nat_lit 3) g7 g72)) 
oEnd)))) (oSet (xMove g3) p73 
(oSet (xMove g73) p74 
(oSetIf (wantT g74) (xLook (lkLoadN (nat_lit 3) g7)) p75 
(oSetIf (wantT g74) (xCall q304 [g75]) p76 
(oSet (xLook (lkPick g74 g76 q0)) p77 
(oSet (xMove g77) p3 
oEnd)))))))) (oSet (xLook (lkBin .add g69 q12)) p78 
(oSet (xMove g78) p69 
oEnd)))))))) (kSeq (kSeq (oSet (xMove g3) p79 
(oSet (xLook (lkUn .not g79)) p80 
(oSet (xMove g80) p81 
(oSetIf (wantF g81) (xLook (lkFieldAddr (nat_lit 0) g1)) p82 
(oSetIf (wantF g81) (xLook (lkLoad1 g82)) p83 
(oSetIf (wantF g81) (xLook (lkEq true .int g83 q8)) p84 
(oSetIf (wantF g81) (xMove g84) p85 
(oSetIf (wantT g85) (xLook (lkFieldAddr (nat_lit 4) g1)) p86 
(oSetIf (wantT g85) (xLook (lkLoad1 g86)) p87 
(oSetIf (wantT g85) (xLook (lkLen .sl g87)) p88 
(oSetIf (wantT g85) (xLook (lkBin .gtr g88 q8)) p89 
(oSetIf (wantF g81) (xLook (lkPick g85 g89 q0)) p90 
(oSet (xLook (lkPick g81 q3 g90)) p91 
oEnd))))))))))))) (kCond g91 (kSeq (oSet (xMove q9) p2 
oEnd) kRet) kSkip)) (kSeq (oSet (xMove q8) p2 
oEnd) kRet)))))))⟩
def q305 : OpdF := kC (.func (.func (nat_lit 223)) ⟨[]⟩ ⟨[]⟩)
noncomputable def k149 : KFun := ⟨[], (kSeq (oSet (xMove g0) p4 
(oSet (xNil g4) p5 
(oSet (xLook (lkFieldAddr (nat_lit 1) g5)) p6 
(oSet (xLook (lkLoad1 g6)) p7 
(oSet (xLook (lkEq false .int g7 q8)) p8 
oEnd))))) (kCond g8 (oSet (xMove g0) p10 
(oSet (xMove g0) p11 
(oSet (xMove g0) p12 
(oSet (xNil g12) p13 
(oSet (xLook (lkFieldAddr (nat_lit 0) g13)) p14 
(oSet (xLook (lkLoad1 g14)) p15 
(oSet (xMove g1) p16 
(oSet (xCall q305 [g15, g16]) p17 
(oSet (xMove g17) p9 
(oSet (xLook (lkExtract (nat_lit 0) g9)) p18 
(oSet (xLook (lkExtract (nat_lit 1) g9)) p19 
(oSet (xNil g10) p20 
(oSet (xLook (lkFieldAddr (nat_lit 0) g20)) p21 
(oDo (xTurn (tnStore (nat_lit 1) g21 g18)) 
(oSet (xNil g11) p22 
(oSet (xLook (lkFieldAddr (nat_lit 1) g22)) p23 
(oDo (xTurn (tnStore (nat_lit 1) g23 g19)) 
oEnd))))))))))))))))) kSkip))⟩
noncomputable def k152d0 : KD := 
(dLook (nat_lit 8) [] [(nat_lit 6)] (lkPick g34 q3 g40) p41 (dEnd [(nat_lit 33), (nat_lit 34), (nat_lit 35), (nat_lit 36), (nat_lit 37), (nat_lit 38), (nat_lit 39), (nat_lit 40), (nat_lit 41)]))
noncomputable def k152d1 : KD := 
(dIf [(nat_lit 6)] (wantF g34) p40 (dLook (nat_lit 7) [] [(nat_lit 6)] (lkBin .geq g39 q8) p40 k152d0) k152d0)
noncomputable def k152d2 : KD := 
(dIf [] (wantF g34) p39 (dTurn (nat_lit 6) [] [] true (xCall q280 [g37, g38]) p39 k152d1) k152d1)
noncomputable def k152d3 : KD := 
(dIf [] (wantF g34) p38 (dLook (nat_lit 5) [] [] (lkLoadN (nat_lit 32) g7) p38 k152d2) k152d2)
noncomputable def k152d4 : KD := 
(dIf [] (wantF g34) p37 (dLook (nat_lit 4) [] [] (lkFieldAddr (nat_lit 0) g36) p37 k152d3) k152d3)
noncomputable def k152d5 : KD := 
(dIf [] (wantF g34) p36 (dTurn (nat_lit 3) [] [] false (xNil g35) p36 k152d4) k152d4)
def q307 : OpdF := kC (.func (.func (nat_lit 229)) ⟨[]⟩ ⟨[]⟩)
noncomputable def k152d6 : KD := 
(dLook (nat_lit 16) [] [] (lkPick g59 q3 g72) p73 (dEnd [(nat_lit 57), (nat_lit 58), (nat_lit 59), (nat_lit 60), (nat_lit 61), (nat_lit 62), (nat_lit 63), (nat_lit 64), (nat_lit 65), (nat_lit 66), (nat_lit 67), (nat_lit 68), (nat_lit 69), (nat_lit 70), (nat_lit 71), (nat_lit 72), (nat_lit 73)]))
noncomputable def k152d7 : KD := 
(dIf [] (wantF g59) p72 (dLook (nat_lit 15) [] [] (lkBin .geq g71 q186) p72 k152d6) k152d6)
noncomputable def k152d8 : KD := 
(dIf [] (wantF g59) p71 (dLook (nat_lit 14) [] [] (lkBin .add g64 g70) p71 k152d7) k152d7)
noncomputable def k152d9 : KD := 
(dIf [] (wantF g59) p70 (dLook (nat_lit 13) [] [] (lkLen .sl g69) p70 k152d8) k152d8)
noncomputable def k152d10 : KD := 
(dIf [] (wantF g59) p69 (dLook (nat_lit 12) [] [] (lkLoad1 g68) p69 k152d9) k152d9)
noncomputable def k152d11 : KD := 
(dIf [] (wantF g59) p68 (dLook (nat_lit 11) [] [] (lkFieldAddr (nat_lit 0) g67) p68 k152d10) k152d10)
noncomputable def k152d12 : KD := 
(dIf [] (wantF g59) p67 (dLook (nat_lit 10) [] [] (lkFieldAddr (nat_lit 0) g66) p67 k152d11) k152d11)
noncomputable def k152d13 : KD := 
(dIf [] (wantF g59) p66 (dTurn (nat_lit 9) [] [] false (xNil g65) p66 k152d12) k152d12)
noncomputable def k152d14 : KD := 
(dIf [] (wantF g59) p65 (dLook (nat_lit 8) [] [] (lkMove g0) p65 k152d13) k152d13)
noncomputable def k152d15 : KD := 
(dIf [] (wantF g59) p64 (dLook (nat_lit 7) [] [] (lkLen .map g63) p64 k152d14) k152d14)
noncomputable def k152d16 : KD := 
(dIf [] (wantF g59) p63 (dLook (nat_lit 6) [] [] (lkLoad1 g62) p63 k152d15) k152d15)
noncomputable def k152d17 : KD := 
(dIf [] (wantF g59) p62 (dLook (nat_lit 5) [] [] (lkFieldAddr (nat_lit 38) g61) p62 k152d16) k152d16)
noncomputable def k152d18 : KD := 
(dIf [] (wantF g59) p61 (dTurn (nat_lit 4) [] [] false (xNil g60) p61 k152d17) k152d17)
def q308 : List Value := [(.int .i64 (.ofNat (nat_lit 0))), (.int .i64 (.ofNat (nat_lit 0))), (.int .u8 (.ofNat (nat_lit 0))), (.int .u8 (.ofNat (nat_lit 0))), (.int .u8 (.ofNat (nat_lit 0))), (.int .u8 (.ofNat (nat_lit 0))), (.int .u8 (.ofNat (nat_lit 0))), (.int .u8 (.ofNat (nat_lit 0))), (.int .u8 (.ofNat (nat_lit 0))), (.int .u8 (.ofNat (nat_lit 0))), (.int .u8 (.ofNat (nat_lit 0))), (.int .u8 (.ofNat (nat_lit 0))), (.int .u8 (.ofNat (nat_lit 0))), (.int .u8 (.ofNat (nat_lit 0))), (.int .u8 (.ofNat (nat_lit 0))), (.int .u8 (.ofNat (nat_lit 0))), (.int .u8 (.ofNat (nat_lit 0))), (.int .u8 (.ofNat (nat_lit 0))), (.int .u8 (.ofNat (nat_lit 0))), (.int .u8 (.ofNat (nat_lit 0))), (.int .u8 (.ofNat (nat_lit 0))), (.int .u8 (.ofNat (nat_lit 0))), (.int .u8 (.ofNat (nat_lit 0))), (.int .u8 (.ofNat (nat_lit 0))), (.int .u8 (.ofNat (nat_lit 0))), (.int .u8 (.ofNat (nat_lit 0))), (.int .u8 (.ofNat (nat_lit 0))), (.int .u8 (.ofNat (nat_lit 0))), (.int .u8 (.ofNat (nat_lit 0))), (.int .u8 (.ofNat (nat_lit 0))), (.int .u8 (.ofNat (nat_lit 0))), (.int .u8 (.ofNat (nat_lit 0))), (.int .u8 (.ofNat (nat_lit 0))), (.int .u8 (.ofNat (nat_lit 0))), (.slice none (nat_lit 0) (nat_lit 0))]
noncomputable def k152 : KFun := ⟨[rCellN (nat_lit 4) g4 (nat_lit 32), rTmp (nat_lit 5) g5], (kSeq (oSet (xTurn (tnAlloc q66)) p4 
(oSet (xMove q8) p5 
oEnd)) (kSeq (kSeq (oSet (xMove g0) p12 
(oSet (xCall q278 [g12]) p13 
(oSet (xMove g13) p6 
oEnd))) (kSeq (oSet (xMove g6) p14 
(oSet (xLook (lkEq true .int g14 q8)) p15 
oEnd)) (kCond g15 (kSeq (oSet (xLook (lkBuild q66 [])) p16 
(oSet (xMove g6) p17 
(oDo (xTurn (tnStore (nat_lit 32) g4 g16)) 
(oSet (xMove g17) p5 
oEnd)))) kRet) kSkip))) (kSeq (kSeq (oSet (xMove g1) p18 
(oSet (xLook (lkLen .sl g18)) p19 
(oSet (xLook (lkBin .gtr g19 q85)) p20 
oEnd))) (kCond g20 (kSeq (oSet (xLook (lkBuild q66 [])) p21 
(oDo (xTurn (tnStore (nat_lit 32) g4 g21)) 
(oSet (xMove q68) p5 
oEnd))) kRet) kSkip)) (kSeq (oSet (xMove g1) p22 
(oSet (xCall q65 [g22]) p23 
(oSet (xTurn (tnAlloc q66)) p7 
(oDo (xTurn (tnStore (nat_lit 32) g7 g23)) 
oEnd)))) (kSeq (kSeq (kDraw 
(dLook (nat_lit 0) [] [] (lkMove g0) p25 
(dTurn (nat_lit 1) [] [] false (xNil g25) p26 
(dLook (nat_lit 2) [] [] (lkFieldAddr (nat_lit 38) g26) p27 
(dLook (nat_lit 3) [] [] (lkLoad1 g27) p28 
(dLook (nat_lit 4) [] [] (lkLoadN (nat_lit 32) g7) p29 
(dLook (nat_lit 5) [] [] (lkLookup (.many (nat_lit 32) .u8) (.agg ⟨[(.int .i64 (.ofNat (nat_lit 0))), (.int .i64 (.ofNat (nat_lit 0)))]⟩) true g28 g29) p30 
(dLook (nat_lit 6) [] [] (lkMove g30) p24 
(dLook (nat_lit 7) [] [] (lkExtract (nat_lit 0) g24) p31 
(dLook (nat_lit 8) [] [] (lkExtract (nat_lit 1) g24) p32 
(dTurn (nat_lit 9) [] [] false (xTurn (tnAlloc q35)) p8 
(dTurn (nat_lit 10) [] [] true (xTurn (tnStore (nat_lit 2) g8 g31)) noDst 
(dLook (nat_lit 11) [] [(nat_lit 10)] (lkMove g32) p9 (dEnd [(nat_lit 25), (nat_lit 26), (nat_lit 27), (nat_lit 28), (nat_lit 29), (nat_lit 30), (nat_lit 24), (nat_lit 31), (nat_lit 32), (nat_lit 8), (nat_lit 9)])))))))))))))) (kSeq (kDraw 
(dLook (nat_lit 0) [] [] (lkMove g9) p33 
(dLook (nat_lit 1) [] [] (lkMove g33) p34 
(dIf [] (wantF g34) p35 (dLook (nat_lit 2) [] [] (lkMove g0) p35 k152d5) k152d5)))) (kCond g41 (kSeq (kDraw 
(dLook (nat_lit 0) [] [] (lkMove g0) p42 
(dTurn (nat_lit 1) [] [] false (xNil g42) p43 
(dLook (nat_lit 2) [] [] (lkFieldAddr (nat_lit 0) g43) p44 
(dLook (nat_lit 3) [] [] (lkFieldAddr (nat_lit 1) g44) p45 
(dLook (nat_lit 4) [] [] (lkLoad1 g45) p46 
(dLook (nat_lit 5) [] [] (lkLoadN (nat_lit 32) g7) p47 
(dTurn (nat_lit 6) [] [] true (xTurn (tnDelete (.many (nat_lit 32) .u8) g46 g47)) noDst (dEnd [(nat_lit 42), (nat_lit 43), (nat_lit 44), (nat_lit 45), (nat_lit 46), (nat_lit 47)]))))))))) (kSeq (oSet (xLook (lkLoadN (nat_lit 32) g7)) p48 
(oDo (xTurn (tnStore (nat_lit 32) g4 g48)) 
(oSet (xMove q8) p5 
oEnd))) kRet)) kSkip))) (kSeq (oSet (xMove g0) p50 
(oSet (xMove g1) p51 
(oSet (xLook (lkLen .sl g51)) p52 
(oSet (xCall q179 [g52]) p53 
(oSet (xCall q307 [g50, g53]) p54 
(oSet (xMove g54) p49 
(oSet (xLook (lkExtract (nat_lit 0) g49)) p55 
(oSet (xLook (lkExtract (nat_lit 1) g49)) p56 
(oSet (xMove g55) p10 
(oSet (xMove g56) p11 
oEnd)))))))))) (kSeq (kSeq (kDraw 
(dLook (nat_lit 0) [] [] (lkMove g11) p57 
(dLook (nat_lit 1) [] [] (lkEq true .int g57 q8) p58 
(dLook (nat_lit 2) [] [] (lkMove g58) p59 
(dIf [] (wantF g59) p60 (dLook (nat_lit 3) [] [] (lkMove g0) p60 k152d18) k152d18))))) (kCond g73 (kSeq (oSet (xLook (lkBuild q66 [])) p74 
(oDo (xTurn (tnStore (nat_lit 32) g4 g74)) 
(oSet (xMove q41) p5 
oEnd))) kRet) kSkip)) (kSeq (kDraw 
(dLook (nat_lit 0) [] [] (lkMove g0) p75 
(dLook (nat_lit 1) [] [] (lkMove g0) p76 
(dTurn (nat_lit 2) [] [] false (xNil g76) p77 
(dLook (nat_lit 3) [] [] (lkFieldAddr (nat_lit 0) g77) p78 
(dLook (nat_lit 4) [] [] (lkFieldAddr (nat_lit 0) g78) p79 
(dLook (nat_lit 5) [] [] (lkLoad1 g79) p80 
(dLook (nat_lit 6) [] [] (lkMove g10) p81 
(dLook (nat_lit 7) [] [] (lkMove g1) p82 
(dLook (nat_lit 8) [] [] (lkLen .sl g82) p83 
(dLook (nat_lit 9) [] [] (lkBuild q35 [((nat_lit 0), (nat_lit 1), g81), ((nat_lit 1), (nat_lit 1), g83)]) p84 
(dLook (nat_lit 10) [] [] (lkLoadN (nat_lit 32) g7) p85 
(dLook (nat_lit 11) [] [] (lkMove g1) p86 
(dTurn (nat_lit 12) [(nat_lit 5), (nat_lit 8), (nat_lit 10)] [] true (xCall q185 [g86]) p87 
(dLook (nat_lit 13) [] [(nat_lit 12)] (lkBuild q308 [((nat_lit 0), (nat_lit 2), g84), ((nat_lit 2), (nat_lit 32), g85), ((nat_lit 34), (nat_lit 1), g87)]) p88 
(dTurn (nat_lit 14) [] [(nat_lit 12)] false (xTurn (tnBuildSlice q308 [((nat_lit 0), (nat_lit 35), g88)] (nat_lit 1))) p89 
(dTurn (nat_lit 15) [] [(nat_lit 12)] true (xTurn (tnAppend (nat_lit 35) g80 g89)) p90 
(dTurn (nat_lit 16) [] [(nat_lit 12), (nat_lit 15)] false (xNil g75) p91 
(dLook (nat_lit 17) [] [(nat_lit 12), (nat_lit 15)] (lkFieldAddr (nat_lit 0) g91) p92 
(dLook (nat_lit 18) [] [(nat_lit 12), (nat_lit 15)] (lkFieldAddr (nat_lit 0) g92) p93 
(dTurn (nat_lit 19) [] [(nat_lit 12), (nat_lit 15)] true (xTurn (tnStore (nat_lit 1) g93 g90)) noDst (dEnd [(nat_lit 75), (nat_lit 76), (nat_lit 77), (nat_lit 78), (nat_lit 79), (nat_lit 80), (nat_lit 81), (nat_lit 82), (nat_lit 83), (nat_lit 84), (nat_lit 85), (nat_lit 86), (nat_lit 87), (nat_lit 88), (nat_lit 89), (nat_lit 90), (nat_lit 91), (nat_lit 92), (nat_lit 93)])))))))))))))))))))))) (kSeq (oSet (xLook (lkLoadN (nat_lit 32) g7)) p94 
(oDo (xTurn (tnStore (nat_lit 32) g4 g94)) 
(oSet (xMove q8) p5 
oEnd))) kRet)))))))))⟩
def q309 : OpdF := kC (.int .i64 (.ofNat (nat_lit 70)))
noncomputable def k153 : KFun := ⟨[rTmp (nat_lit 2) g2], (kSeq (oSet (xTurn (tnBox g0)) p1 
(oSet (xMove q0) p2 
oEnd)) (kSeq (kSeq (oSet (xLook (lkFieldAddr (nat_lit 0) g1)) p6 
(oSet (xLook (lkLoad1 g6)) p7 
(oSet (xCall q48 [g7]) p8 
(oSet (xLook (lkUn .not g8)) p9 
(oSet (xMove g9) p10 
(oSetIf (wantF g10) (xLook (lkFieldAddr (nat_lit 65) g1)) p11 
(oSetIf (wantF g10) (xLook (lkLoad1 g11)) p12 
(oSetIf (wantF g10) (xLook (lkBin .lss g12 q8)) p13 
(oSet (xLook (lkPick g10 q3 g13)) p14 
(oSet (xMove g14) p15 
(oSetIf (wantF g15) (xLook (lkFieldAddr (nat_lit 65) g1)) p16 
(oSetIf (wantF g15) (xLook (lkLoad1 g16)) p17 
(oSetIf (wantF g15) (xLook (lkBin .gtr g17 q131)) p18 
(oSet (xLook (lkPick g15 q3 g18)) p19 
(oSet (xMove g19) p20 
(oSetIf (wantF g20) (xLook (lkFieldAddr (nat_lit 66) g1)) p21 
(oSetIf (wantF g20) (xLook (lkLoad1 g21)) p22 
(oSetIf (wantF g20) (xLook (lkLen .sl g22)) p23 
(oSetIf (wantF g20) (xLook (lkBin .gtr g23 q309)) p24 
(oSet (xLook (lkPick g20 q3 g24)) p25 
oEnd)))))))))))))))))))) (kCond g25 (kSeq (oSet (xMove q0) p2 
oEnd) kRet) kSkip)) (kSeq (oSet (xMove q88) p3 
oEnd) (kSeq (kSeq (oSet (xLook (lkFieldAddr (nat_lit 66) g1)) p26 
(oSet (xLook (lkLoad1 g26)) p27 
(oSet (xLook (lkLen .sl g27)) p28 
(oSet (xMove q8) p29 
oEnd)))) (kBlock (nat_lit 0) (kLoop (kSeq (oSet (xLook (lkBin .lss g29 g28)) p30 
oEnd) (kSeq (kCond g30 kSkip (kExit (nat_lit 0))) (kSeq (kBlock (nat_lit 1) (kSeq (oSet (xLook (lkIxSl (nat_lit 33) g27 g29)) p31 
(oSet (xLook (lkLoadN (nat_lit 33) g31)) p32 
(oSet (xTurn (tnAlloc q119)) p5 
(oDo (xTurn (tnStore (nat_lit 33) g5 g32)) 
oEnd)))) (kSeq (kSeq (oSet (xLook (lkFieldAddr (nat_lit 0) g5)) p33 
(oSet (xLook (lkLoad1 g33)) p34 
(oSet (xMove g3) p35 
(oSet (xLook (lkBin .leq g34 g35)) p36 
(oSet (xMove g36) p37 
(oSetIf (wantF g37) (xLook (lkFieldAddr (nat_lit 0) g5)) p38 
(oSetIf (wantF g37) (xLook (lkLoad1 g38)) p39 
(oSetIf (wantF g37) (xLook (lkFieldAddr (nat_lit 65) g1)) p40 
(oSetIf (wantF g37) (xLook (lkLoad1 g40)) p41 
(oSetIf (wantF g37) (xLook (lkBin .gtr g39 g41)) p42 
(oSet (xLook (lkPick g37 q3 g42)) p43 
oEnd))))))))))) (kCond g43 (kSeq (oSet (xMove q0) p2 
oEnd) kRet) kSkip)) (oSet (xLook (lkFieldAddr (nat_lit 0) g5)) p44 
(oSet (xLook (lkLoad1 g44)) p45 
(oSet (xMove g45) p3 
oEnd)))))) (oSet (xLook (lkBin .add g29 q12)) p46 
(oSet (xMove g46) p29 
oEnd)))))))) (kSeq (oSet (xMove q3) p2 
oEnd) kRet)))))⟩
noncomputable def k154 : KFun := ⟨[rTmp (nat_lit 2) g2], (kSeq (oSet (xMove q23) p2 
oEnd) (kSeq (oSet (xMove q23) p3 
oEnd) (kSeq (kSeq (oSet (xMove g0) p6 
(oSet (xLook (lkLen .sl g6)) p7 
(oSet (xMove q8) p8 
oEnd))) (kBlock (nat_lit 0) (kLoop (kSeq (oSet (xLook (lkBin .lss g8 g7)) p9 
oEnd) (kSeq (kCond g9 kSkip (kExit (nat_lit 0))) (kSeq (kBlock (nat_lit 1) (kSeq (oSet (xLook (lkIxSl (nat_lit 67) g6 g8)) p10 
(oSet (xLook (lkLoadN (nat_lit 67) g10)) p11 
(oSet (xTurn (tnAlloc q30)) p5 
(oDo (xTurn (tnStore (nat_lit 67) g5 g11)) 
oEnd)))) (oSet (xMove g3) p12 
(oSet (xLook (lkLoadN (nat_lit 67) g5)) p13 
(oSet (xCall q126 [g13]) p14 
(oSet (xTurn (tnBuildSlice q30 [((nat_lit 0), (nat_lit 67), g14)] (nat_lit 1))) p15 
(oSet (xTurn (tnAppend (nat_lit 67) g12 g15)) p16 
(oSet (xMove g16) p3 
oEnd)))))))) (oSet (xLook (lkBin .add g8 q12)) p17 
(oSet (xMove g17) p8 
oEnd)))))))) (kSeq (oSet (xMove g3) p18 
(oSet (xMove g18) p2 
oEnd)) kRet))))⟩
def q310 : OpdF := kC (.func (.func (nat_lit 230)) ⟨[]⟩ ⟨[]⟩)
def q311 : OpdF := kC (.func (.func (nat_lit 231)) ⟨[]⟩ ⟨[]⟩)
noncomputable def k155 : KFun := ⟨[rTmp (nat_lit 6) g6], (kSeq (oSet (xMove q23) p6 
oEnd) (kSeq (oSet (xMove g0) p10 
(oSet (xMove g1) p11 
(oSet (xLook (lkSliceSl (nat_lit 67) g10 (some g11) none none)) p12 
oEnd))) (kSeq (oSet (xMove g2) p13 
(oSet (xLook (lkLen .sl g13)) p14 
(oSet (xMove g14) p7 
oEnd))) (kSeq (kSeq (oSet (xMove g7) p15 
(oSet (xLook (lkEq false .int g15 q8)) p16 
oEnd)) (kCond g16 (kSeq (oSet (xMove g0) p17 
(oSet (xMove g17) p6 
oEnd)) kRet) kSkip)) (kSeq (oSet (xMove g0) p18 
(oSet (xLook (lkLen .sl g18)) p19 
(oSet (xMove g19) p8 
oEnd))) (kSeq (kSeq (oSet (xMove g1) p20 
(oSet (xMove g8) p21 
(oSet (xLook (lkEq false .int g20 g21)) p22 
oEnd))) (kCond g22 (kSeq (oSet (xMove g0) p23 
(oSet (xMove g2) p24 
(oSet (xTurn (tnAppend (nat_lit 67) g23 g24)) p25 
(oSet (xMove g25) p6 
oEnd)))) kRet) kSkip)) (kSeq (kSeq (oSet (xMove g8) p26 
(oSet (xMove g7) p27 
(oSet (xLook (lkBin .add g26 g27)) p28 
(oSet (xMove g0) p29 
(oSet (xLook (lkCap g29)) p30 
(oSet (xLook (lkBin .gtr g28 g30)) p31 
oEnd)))))) (kCond g31 (kSeq (oSet (xMove g0) p32 
(oSet (xMove g1) p33 
(oSet (xLook (lkSliceSl (nat_lit 67) g32 none (some g33) none)) p34 
(oSet (xMove g8) p35 
(oSet (xMove g7) p36 
(oSet (xLook (lkBin .add g35 g36)) p37 
(oSet (xMove g1) p38 
(oSet (xLook (lkBin .sub g37 g38)) p39 
(oSet (xTurn (tnAppendZ q30 g34 g39)) p40 
(oSet (xMove g40) p9 
oEnd)))))))))) (kSeq (oSet (xMove g9) p41 
(oSet (xMove g1) p42 
(oSet (xLook (lkSliceSl (nat_lit 67) g41 (some g42) none none)) p43 
(oSet (xMove g2) p44 
(oSet (xTurn (tnCopy (nat_lit 67) g43 g44)) p45 
oEnd))))) (kSeq (kDraw 
(dLook (nat_lit 0) [] [] (lkMove g9) p46 
(dLook (nat_lit 1) [] [] (lkMove g1) p47 
(dLook (nat_lit 2) [] [] (lkMove g7) p48 
(dLook (nat_lit 3) [] [] (lkBin .add g47 g48) p49 
(dLook (nat_lit 4) [] [] (lkSliceSl (nat_lit 67) g46 (some g49) none none) p50 
(dLook (nat_lit 5) [] [] (lkMove g0) p51 
(dLook (nat_lit 6) [] [] (lkMove g1) p52 
(dLook (nat_lit 7) [] [] (lkSliceSl (nat_lit 67) g51 (some g52) none none) p53 
(dTurn (nat_lit 8) [] [] true (xTurn (tnCopy (nat_lit 67) g50 g53)) p54 (dEnd [(nat_lit 46), (nat_lit 47), (nat_lit 48), (nat_lit 49), (nat_lit 50), (nat_lit 51), (nat_lit 52), (nat_lit 53), (nat_lit 54)]))))))))))) (kSeq (oSet (xMove g9) p55 
(oSet (xMove g55) p6 
oEnd)) kRet)))) kSkip)) (kSeq (oSet (xMove g0) p56 
(oSet (xMove g8) p57 
(oSet (xMove g7) p58 
(oSet (xLook (lkBin .add g57 g58)) p59 
(oSet (xLook (lkSliceSl (nat_lit 67) g56 none (some g59) none)) p60 
(oSet (xMove g60) p0 
oEnd)))))) (kSeq (kSeq (oSet (xMove g2) p61 
(oSet (xMove g0) p62 
(oSet (xMove g1) p63 
(oSet (xMove g7) p64 
(oSet (xLook (lkBin .add g63 g64)) p65 
(oSet (xLook (lkSliceSl (nat_lit 67) g62 (some g65) none none)) p66 
(oSet (xCall q310 [g61, g66]) p67 
(oSet (xLook (lkUn .not g67)) p68 
oEnd)))))))) (kCond g68 (kSeq (kDraw 
(dLook (nat_lit 0) [] [] (lkMove g0) p69 
(dLook (nat_lit 1) [] [] (lkMove g1) p70 
(dLook (nat_lit 2) [] [] (lkMove g7) p71 
(dLook (nat_lit 3) [] [] (lkBin .add g70 g71) p72 
(dLook (nat_lit 4) [] [] (lkSliceSl (nat_lit 67) g69 (some g72) none none) p73 
(dLook (nat_lit 5) [] [] (lkMove g0) p74 
(dLook (nat_lit 6) [] [] (lkMove g1) p75 
(dLook (nat_lit 7) [] [] (lkSliceSl (nat_lit 67) g74 (some g75) none none) p76 
(dTurn (nat_lit 8) [] [] true (xTurn (tnCopy (nat_lit 67) g73 g76)) p77 (dEnd [(nat_lit 69), (nat_lit 70), (nat_lit 71), (nat_lit 72), (nat_lit 73), (nat_lit 74), (nat_lit 75), (nat_lit 76), (nat_lit 77)]))))))))))) (kSeq (oSet (xMove g0) p78 
(oSet (xMove g1) p79 
(oSet (xLook (lkSliceSl (nat_lit 67) g78 (some g79) none none)) p80 
(oSet (xMove g2) p81 
(oSet (xTurn (tnCopy (nat_lit 67) g80 g81)) p82 
oEnd))))) (kSeq (oSet (xMove g0) p83 
(oSet (xMove g83) p6 
oEnd)) kRet))) kSkip)) (kSeq (oSet (xMove g0) p84 
(oSet (xMove g8) p85 
(oSet (xLook (lkSliceSl (nat_lit 67) g84 (some g85) none none)) p86 
(oSet (xMove g2) p87 
(oSet (xTurn (tnCopy (nat_lit 67) g86 g87)) p88 
oEnd))))) (kSeq (oSet (xMove g0) p89 
(oSet (xMove g1) p90 
(oSet (xLook (lkSliceSl (nat_lit 67) g89 (some g90) none none)) p91 
(oSet (xMove g7) p92 
(oSet (xCall q311 [g91, g92]) p93 
oEnd))))) (kSeq (oSet (xMove g0) p94 
(oSet (xMove g94) p6 
oEnd)) kRet))))))))))))⟩

end Go.Proofs.YtobifggnopkeeaaGreatDoor.Eng
