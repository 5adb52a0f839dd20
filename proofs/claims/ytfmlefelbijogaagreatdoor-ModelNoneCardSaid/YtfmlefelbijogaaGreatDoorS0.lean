/-
  The functions that the law reaches, as the abstract machine runs them, printed by program. No condition.
-/
import Derived.Test.YtfmlefelbijogaaGreatDoorA
namespace Go.Proofs.YtfmlefelbijogaaGreatDoor.Eng
open Go Go.Eng
set_option linter.unusedVariables false
set_option maxRecDepth 100000

def q0 : OpdF := kC (.bool false)
def q1 : OpdF := kC (.int .i64 (.ofNat (nat_lit 2000)))
def q2 : OpdF := kC (.bool true)
def q3 : List Value := [(.slice none (nat_lit 0) (nat_lit 0)), (.bool false)]
def q4 : List Value := [(.pointer none), (.pointer none)]
def q5 : OpdF := kC (.pointer none)
def q6 : OpdF := kC (.int .i64 (.ofNat (nat_lit 0)))
def q7 : OpdF := kC (.func (.func (nat_lit 11)) ⟨[]⟩ ⟨[]⟩)
def q8 : OpdF := kC (.func (.func (nat_lit 12)) ⟨[]⟩ ⟨[]⟩)
def q9 : OpdF := kC (.func (.func (nat_lit 13)) ⟨[]⟩ ⟨[]⟩)
def q10 : OpdF := kC (.int .i64 (.ofNat (nat_lit 1)))
def q11 : OpdF := kC (.func (.func (nat_lit 10)) ⟨[]⟩ ⟨[]⟩)
noncomputable def k4 : KFun := ⟨[rTmp (nat_lit 2) g2], (kSeq (oSet (xMove q0) p2 
oEnd) (kSeq (kSeq (oSet (xMove g0) p5 
(oSet (xLook (lkLen .sl g5)) p6 
(oSet (xLook (lkBin .gtr g6 q1)) p7 
oEnd))) (kCond g7 (kSeq (oSet (xMove q2) p2 
oEnd) kRet) kSkip)) (kSeq (oSet (xLook (lkBuild q3 [])) p8 
(oSet (xTurn (tnBox g8)) p9 
(oSet (xTurn (tnBuildSlice q4 [((nat_lit 0), (nat_lit 1), q5), ((nat_lit 1), (nat_lit 1), g9)] (nat_lit 2))) p10 
(oSet (xMove g10) p3 
oEnd)))) (kSeq (kSeq (oSet (xMove q6) p4 
oEnd) (kBlock (nat_lit 0) (kLoop (kSeq (kSeq (oSet (xMove g4) p11 
(oSet (xMove g3) p12 
(oSet (xLook (lkLen .sl g12)) p13 
(oSet (xLook (lkBin .lss g11 g13)) p14 
oEnd)))) (kCond g14 kSkip (kExit (nat_lit 0)))) (kSeq (kBlock (nat_lit 1) (kSeq (oSet (xMove g3) p17 
(oSet (xMove g4) p18 
(oSet (xLook (lkIxSl (nat_lit 1) g17 g18)) p19 
(oSet (xLook (lkLoad1 g19)) p20 
(oSet (xMove g0) p21 
(oSet (xCall q7 [g20, g21]) p22 
(oSet (xLook (lkLen .sl g22)) p23 
(oSet (xLook (lkEq true .int g23 q6)) p24 
(oSet (xMove g24) p25 
(oSetIf (wantF g25) (xMove g3) p26 
(oSetIf (wantF g25) (xMove g4) p27 
(oSetIf (wantF g25) (xLook (lkIxSl (nat_lit 1) g26 g27)) p28 
(oSetIf (wantF g25) (xLook (lkLoad1 g28)) p29 
(oSetIf (wantF g25) (xCall q8 [g29]) p30 
(oSetIf (wantF g25) (xLook (lkLen .sl g30)) p31 
(oSetIf (wantF g25) (xLook (lkEq true .int g31 q6)) p32 
(oSet (xLook (lkPick g25 q2 g32)) p33 
(oSet (xMove g33) p34 
(oSetIf (wantF g34) (xMove g3) p35 
(oSetIf (wantF g34) (xMove g4) p36 
(oSetIf (wantF g34) (xLook (lkIxSl (nat_lit 1) g35 g36)) p37 
(oSetIf (wantF g34) (xLook (lkLoad1 g37)) p38 
(oSetIf (wantF g34) (xCall q9 [g38]) p39 
(oSetIf (wantF g34) (xLook (lkEq true .ptr g39 q5)) p40 
(oSet (xLook (lkPick g34 q2 g40)) p41 
oEnd))))))))))))))))))))))))) (kCond g41 (kSeq (oSet (xMove q0) p2 
oEnd) kRet) kSkip))) (oSet (xMove g4) p15 
(oSet (xLook (lkBin .add g15 q10)) p16 
(oSet (xMove g16) p4 
oEnd)))))))) (kSeq (oSet (xCall q11 []) p42 
(oSet (xMove g42) p2 
oEnd)) kRet)))))⟩
def q12 : OpdF := kC (.func (.func (nat_lit 14)) ⟨[]⟩ ⟨[]⟩)
def q13 : List Value := [(.int .i64 (.ofNat (nat_lit 0))), (.string ⟨⟨[]⟩⟩), (.string ⟨⟨[]⟩⟩), (.string ⟨⟨[]⟩⟩), (.string ⟨⟨[]⟩⟩), (.int .i64 (.ofNat (nat_lit 0))), (.int .i64 (.ofNat (nat_lit 0))), (.slice none (nat_lit 0) (nat_lit 0)), (.slice none (nat_lit 0) (nat_lit 0)), (.int .i64 (.ofNat (nat_lit 0)))]
def q14 : OpdF := kC (.string ⟨⟨[109]⟩⟩)
def q15 : OpdF := kC (.func (.func (nat_lit 6)) ⟨[]⟩ ⟨[]⟩)
def q16 : OpdF := kC (.slice none (nat_lit 0) (nat_lit 0))
def q17 : OpdF := kC (.func (.func (nat_lit 7)) ⟨[]⟩ ⟨[]⟩)
def q18 : OpdF := kC (.string ⟨⟨[97]⟩⟩)
def q19 : List Value := [(.string ⟨⟨[]⟩⟩)]
def q20 : OpdF := kC (.int .i64 (.ofNat (nat_lit 2)))
noncomputable def k5 : KFun := ⟨[rTmp (nat_lit 0) g0], (kSeq (oSet (xMove q5) p0 
oEnd) (kSeq (oSet (xCall q12 []) p2 
(oSet (xMove g2) p1 
oEnd)) (kSeq (kSeq (oSet (xMove g1) p3 
(oSet (xLook (lkEq false .ptr g3 q5)) p4 
(oSet (xMove g4) p5 
(oSetIf (wantF g5) (xMove g1) p6 
(oSetIf (wantF g5) (xLook (lkBuild q13 [((nat_lit 0), (nat_lit 1), q10), ((nat_lit 1), (nat_lit 1), q14)])) p7 
(oSetIf (wantF g5) (xCall q15 [g6, g7, q16, q16]) p8 
(oSetIf (wantF g5) (xLook (lkUn .not g8)) p9 
(oSet (xLook (lkPick g5 q2 g9)) p10 
(oSet (xMove g10) p11 
(oSetIf (wantF g11) (xMove g1) p12 
(oSetIf (wantF g11) (xCall q17 [q18]) p13 
(oSetIf (wantF g11) (xTurn (tnBuildSlice q19 [((nat_lit 0), (nat_lit 1), g13)] (nat_lit 1))) p14 
(oSetIf (wantF g11) (xLook (lkBuild q13 [((nat_lit 0), (nat_lit 1), q20), ((nat_lit 1), (nat_lit 1), q14), ((nat_lit 7), (nat_lit 1), g14)])) p15 
(oSetIf (wantF g11) (xCall q15 [g12, g15, q16, q16]) p16 
(oSetIf (wantF g11) (xLook (lkUn .not g16)) p17 
(oSet (xLook (lkPick g11 q2 g17)) p18 
oEnd)))))))))))))))) (kCond g18 (kSeq (oSet (xMove q5) p0 
oEnd) kRet) kSkip)) (kSeq (oSet (xMove g1) p19 
(oSet (xMove g19) p0 
oEnd)) kRet))))⟩
def q21 : OpdF := kC (.func (.func (nat_lit 8)) ⟨[]⟩ ⟨[]⟩)
def q22 : List Value := [(.int .i64 (.ofNat (nat_lit 0))), (.slice none (nat_lit 0) (nat_lit 0)), (.slice none (nat_lit 0) (nat_lit 0)), (.slice none (nat_lit 0) (nat_lit 0)), (.slice none (nat_lit 0) (nat_lit 0))]
def q23 : OpdF := kC (.func (.func (nat_lit 15)) ⟨[]⟩ ⟨[]⟩)
def q24 : OpdF := kC (.func (.func (nat_lit 16)) ⟨[]⟩ ⟨[]⟩)
noncomputable def k6 : KFun := ⟨[rTmp (nat_lit 8) g8], (kSeq (oSet (xTurn (tnBox g1)) p5 
(oSet (xMove q0) p8 
oEnd)) (kSeq (oSet (xMove g0) p10 
(oSet (xLook (lkLoadN (nat_lit 10) g5)) p11 
(oSet (xCall q21 [g10, g11]) p12 
(oSet (xTurn (tnAlloc q22)) p9 
(oDo (xTurn (tnStore (nat_lit 5) g9 g12)) 
oEnd))))) (kSeq (oSet (xLook (lkFieldAddr (nat_lit 0) g9)) p13 
(oSet (xLook (lkLoad1 g13)) p14 
(oSet (xLook (lkEq false .int g14 q6)) p15 
(oSet (xMove g15) p16 
(oSetIf (wantT g16) (xLook (lkFieldAddr (nat_lit 1) g9)) p17 
(oSetIf (wantT g16) (xLook (lkLoad1 g17)) p18 
(oSetIf (wantT g16) (xMove g2) p19 
(oSetIf (wantT g16) (xCall q23 [g18, g19]) p20 
(oSet (xLook (lkPick g16 g20 q0)) p21 
(oSet (xMove g21) p22 
(oSetIf (wantT g22) (xLook (lkFieldAddr (nat_lit 2) g9)) p23 
(oSetIf (wantT g22) (xLook (lkLoad1 g23)) p24 
(oSetIf (wantT g22) (xMove g3) p25 
(oSetIf (wantT g22) (xCall q24 [g24, g25]) p26 
(oSet (xLook (lkPick g22 g26 q0)) p27 
(oSet (xMove g27) p28 
(oSetIf (wantT g28) (xLook (lkFieldAddr (nat_lit 3) g9)) p29 
(oSetIf (wantT g28) (xLook (lkLoad1 g29)) p30 
(oSetIf (wantT g28) (xLook (lkLen .sl g30)) p31 
(oSetIf (wantT g28) (xLook (lkFieldAddr (nat_lit 4) g9)) p32 
(oSetIf (wantT g28) (xLook (lkLoad1 g32)) p33 
(oSetIf (wantT g28) (xLook (lkLen .sl g33)) p34 
(oSetIf (wantT g28) (xLook (lkBin .add g31 g34)) p35 
(oSetIf (wantT g28) (xLook (lkEq false .int g35 q6)) p36 
(oSet (xLook (lkPick g28 g36 q0)) p37 
(oSet (xMove g37) p8 
oEnd)))))))))))))))))))))))))) kRet)))⟩
def q25 : OpdF := kC (.string ⟨⟨[]⟩⟩)
def q26 : List Value := [(.int .i64 (.ofNat (nat_lit 0))), (.int .i64 (.ofNat (nat_lit 0))), (.int .i64 (.ofNat (nat_lit 0))), (.int .i64 (.ofNat (nat_lit 0))), (.int .i64 (.ofNat (nat_lit 0))), (.string ⟨⟨[]⟩⟩)]
def q27 : OpdF := kC (.int .i64 (.ofNat (nat_lit 4)))
def q28 : List Value := [(.int .i64 (.ofNat (nat_lit 0))), (.int .i64 (.ofNat (nat_lit 0))), (.int .i64 (.ofNat (nat_lit 0))), (.int .i64 (.ofNat (nat_lit 0))), (.int .i64 (.ofNat (nat_lit 0))), (.string ⟨⟨[]⟩⟩), (.int .i64 (.ofNat (nat_lit 0))), (.int .i64 (.ofNat (nat_lit 0))), (.int .i64 (.ofNat (nat_lit 0))), (.int .i64 (.ofNat (nat_lit 0))), (.int .i64 (.ofNat (nat_lit 0))), (.string ⟨⟨[]⟩⟩)]
def q29 : OpdF := kC (.func (.func (nat_lit 17)) ⟨[]⟩ ⟨[]⟩)
noncomputable def k7 : KFun := ⟨[rTmp (nat_lit 2) g2], (kSeq (oSet (xMove q25) p2 
oEnd) (kSeq (oSet (xMove g0) p6 
(oSet (xLook (lkBuild q26 [((nat_lit 0), (nat_lit 1), q10), ((nat_lit 5), (nat_lit 1), g6)])) p7 
(oSet (xLook (lkBuild q26 [((nat_lit 0), (nat_lit 1), q27)])) p8 
(oSet (xTurn (tnBuildSlice q28 [((nat_lit 0), (nat_lit 6), g7), ((nat_lit 6), (nat_lit 6), g8)] (nat_lit 2))) p9 
(oSet (xCall q29 [g9]) p10 
(oSet (xMove g10) p5 
(oSet (xLook (lkExtract (nat_lit 0) g5)) p11 
(oSet (xLook (lkExtract (nat_lit 1) g5)) p12 
(oSet (xMove g11) p3 
(oSet (xMove g12) p4 
oEnd)))))))))) (kSeq (oSet (xMove g3) p13 
(oSet (xLook (lkBytesTo g13)) p14 
(oSet (xMove g14) p2 
oEnd))) kRet)))⟩
def q30 : OpdF := kC (.func (.func (nat_lit 18)) ⟨[]⟩ ⟨[]⟩)
def q31 : OpdF := kC (.func (.func (nat_lit 19)) ⟨[]⟩ ⟨[]⟩)
def q32 : List Value := [(.int .i64 (.ofNat (nat_lit 0))), (.int .i64 (.ofNat (nat_lit 0)))]
def q33 : OpdF := kC (.int .i64 (.negSucc (nat_lit 0)))
noncomputable def k8 : KFun := ⟨[rCellN (nat_lit 4) g4 (nat_lit 5)], (kSeq (oSet (xTurn (tnBox g1)) p3 
(oSet (xTurn (tnAlloc q22)) p4 
oEnd)) (kSeq (oSet (xLook (lkLoadN (nat_lit 10) g3)) p10 
(oSet (xCall q30 [g10]) p11 
(oSet (xMove g11) p9 
(oSet (xLook (lkExtract (nat_lit 0) g9)) p12 
(oSet (xLook (lkExtract (nat_lit 1) g9)) p13 
(oSet (xMove g12) p5 
(oSet (xMove g13) p6 
oEnd))))))) (kSeq (oSet (xMove g0) p15 
(oSet (xMove g5) p16 
(oSet (xCall q7 [g15, g16]) p17 
(oSet (xCall q31 [g17]) p18 
(oSet (xMove g18) p14 
(oSet (xLook (lkExtract (nat_lit 0) g14)) p19 
(oSet (xLook (lkExtract (nat_lit 1) g14)) p20 
(oSet (xTurn (tnAlloc q22)) p7 
(oSet (xTurn (tnAlloc q32)) p8 
(oDo (xTurn (tnStore (nat_lit 5) g7 g19)) 
(oDo (xTurn (tnStore (nat_lit 2) g8 g20)) 
oEnd))))))))))) (kSeq (kSeq (oSet (xMove g6) p21 
(oSet (xLook (lkEq true .int g21 q6)) p22 
(oSet (xMove g22) p23 
(oSetIf (wantF g23) (xLook (lkFieldAddr (nat_lit 0) g8)) p24 
(oSetIf (wantF g23) (xLook (lkLoad1 g24)) p25 
(oSetIf (wantF g23) (xLook (lkEq true .int g25 q6)) p26 
(oSet (xLook (lkPick g23 q2 g26)) p27 
oEnd))))))) (kCond g27 (kSeq (oSet (xLook (lkBuild q22 [((nat_lit 0), (nat_lit 1), q33)])) p28 
(oDo (xTurn (tnStore (nat_lit 5) g4 g28)) 
oEnd)) kRet) kSkip)) (kSeq (oSet (xLook (lkLoadN (nat_lit 5) g7)) p29 
(oDo (xTurn (tnStore (nat_lit 5) g4 g29)) 
oEnd)) kRet)))))⟩
def q34 : OpdF := kC (.func (.func (nat_lit 5)) ⟨[]⟩ ⟨[]⟩)
def q35 : OpdF := kC (.int .i64 (.ofNat (nat_lit 8)))
def q36 : List Value := [(.int .i64 (.ofNat (nat_lit 0)))]
def q37 : OpdF := kC (.int .i64 (.ofNat (nat_lit 9)))
noncomputable def k10 : KFun := ⟨[rTmp (nat_lit 0) g0], (kSeq (oSet (xMove q0) p0 
oEnd) (kSeq (oSet (xCall q34 []) p2 
(oSet (xMove g2) p1 
oEnd)) (kSeq (oSet (xMove g1) p3 
(oSet (xLook (lkEq true .ptr g3 q5)) p4 
(oSet (xMove g4) p5 
(oSetIf (wantT g5) (xMove g1) p6 
(oSetIf (wantT g5) (xLook (lkBuild q13 [((nat_lit 0), (nat_lit 1), q35)])) p7 
(oSetIf (wantT g5) (xTurn (tnBuildSlice q36 [((nat_lit 0), (nat_lit 1), q10)] (nat_lit 1))) p8 
(oSetIf (wantT g5) (xTurn (tnBuildSlice q19 [((nat_lit 0), (nat_lit 1), q14)] (nat_lit 1))) p9 
(oSetIf (wantT g5) (xCall q15 [g6, g7, g8, g9]) p10 
(oSet (xLook (lkPick g5 g10 q0)) p11 
(oSet (xMove g11) p12 
(oSetIf (wantT g12) (xMove g1) p13 
(oSetIf (wantT g12) (xLook (lkBuild q13 [((nat_lit 0), (nat_lit 1), q37), ((nat_lit 1), (nat_lit 1), q14), ((nat_lit 5), (nat_lit 1), q33), ((nat_lit 3), (nat_lit 1), q18)])) p14 
(oSetIf (wantT g12) (xTurn (tnBuildSlice q19 [((nat_lit 0), (nat_lit 1), q18)] (nat_lit 1))) p15 
(oSetIf (wantT g12) (xCall q15 [g13, g14, q16, g15]) p16 
(oSet (xLook (lkPick g12 g16 q0)) p17 
(oSet (xMove g17) p0 
oEnd)))))))))))))))) kRet)))⟩
def q38 : OpdF := kC (.func (.func (nat_lit 22)) ⟨[]⟩ ⟨[]⟩)
def q39 : OpdF := kC (.func (.func (nat_lit 23)) ⟨[]⟩ ⟨[]⟩)
def q40 : OpdF := kC (.func (.func (nat_lit 24)) ⟨[]⟩ ⟨[]⟩)
noncomputable def k11 : KFun := ⟨[rTmp (nat_lit 4) g4], (kSeq (oSet (xMove q16) p4 
oEnd) (kSeq (kSeq (oSet (xMove g0) p10 
(oSet (xLook (lkEq false .ptr g10 q5)) p11 
(oSet (xMove g11) p12 
(oSetIf (wantF g12) (xMove g0) p13 
(oSetIf (wantF g12) (xNil g13) p14 
(oSetIf (wantF g12) (xLook (lkFieldAddr (nat_lit 1) g14)) p15 
(oSetIf (wantF g12) (xLook (lkLoad1 g15)) p16 
(oSetIf (wantF g12) (xLook (lkUn .not g16)) p17 
(oSet (xLook (lkPick g12 q2 g17)) p18 
oEnd))))))))) (kCond g18 (kSeq (oSet (xMove q16) p4 
oEnd) kRet) kSkip)) (kSeq (oSet (xMove g1) p20 
(oSet (xCall q38 [g20]) p21 
(oSet (xMove g21) p19 
(oSet (xLook (lkExtract (nat_lit 0) g19)) p22 
(oSet (xLook (lkExtract (nat_lit 1) g19)) p23 
(oSet (xTurn (tnAlloc q13)) p5 
(oSet (xTurn (tnAlloc q32)) p6 
(oDo (xTurn (tnStore (nat_lit 10) g5 g22)) 
(oDo (xTurn (tnStore (nat_lit 2) g6 g23)) 
oEnd))))))))) (kSeq (oSet (xLook (lkFieldAddr (nat_lit 0) g6)) p24 
(oSet (xLook (lkLoad1 g24)) p25 
(oSet (xLook (lkBuild q22 [((nat_lit 0), (nat_lit 1), g25)])) p26 
(oSet (xTurn (tnAlloc q22)) p7 
(oDo (xTurn (tnStore (nat_lit 5) g7 g26)) 
oEnd))))) (kSeq (kSeq (oSet (xLook (lkFieldAddr (nat_lit 0) g6)) p27 
(oSet (xLook (lkLoad1 g27)) p28 
(oSet (xLook (lkEq false .int g28 q6)) p29 
oEnd))) (kCond g29 (oSet (xMove g0) p30 
(oSet (xLook (lkLoadN (nat_lit 10) g5)) p31 
(oSet (xCall q39 [g30, g31]) p32 
(oDo (xTurn (tnStore (nat_lit 5) g7 g32)) 
oEnd)))) kSkip)) (kSeq (oSet (xLook (lkLoadN (nat_lit 5) g7)) p34 
(oSet (xCall q40 [g34]) p35 
(oSet (xMove g35) p33 
(oSet (xLook (lkExtract (nat_lit 0) g33)) p36 
(oSet (xLook (lkExtract (nat_lit 1) g33)) p37 
(oSet (xMove g36) p8 
(oSet (xMove g37) p9 
oEnd))))))) (kSeq (oSet (xMove g8) p38 
(oSet (xMove g38) p4 
oEnd)) kRet)))))))⟩
def q41 : OpdF := kC (.func (.func (nat_lit 21)) ⟨[]⟩ ⟨[]⟩)
noncomputable def k12 : KFun := ⟨[rTmp (nat_lit 2) g2], (kSeq (oSet (xMove q16) p2 
oEnd) (kSeq (kSeq (oSet (xMove g0) p3 
(oSet (xLook (lkEq false .ptr g3 q5)) p4 
oEnd)) (kCond g4 (kSeq (oSet (xMove q16) p2 
oEnd) kRet) kSkip)) (kSeq (oSet (xMove g0) p5 
(oSet (xNil g5) p6 
(oSet (xLook (lkFieldAddr (nat_lit 0) g6)) p7 
(oSet (xLook (lkLoad1 g7)) p8 
(oSet (xCall q41 [g8]) p9 
(oSet (xMove g9) p2 
oEnd)))))) kRet)))⟩
noncomputable def k13 : KFun := ⟨[rTmp (nat_lit 2) g2], (kSeq (oSet (xMove q5) p2 
oEnd) (kSeq (kSeq (oSet (xMove g0) p3 
(oSet (xLook (lkEq false .ptr g3 q5)) p4 
(oSet (xMove g4) p5 
(oSetIf (wantF g5) (xMove g0) p6 
(oSetIf (wantF g5) (xNil g6) p7 
(oSetIf (wantF g5) (xLook (lkFieldAddr (nat_lit 1) g7)) p8 
(oSetIf (wantF g5) (xLook (lkLoad1 g8)) p9 
(oSetIf (wantF g5) (xLook (lkUn .not g9)) p10 
(oSet (xLook (lkPick g5 q2 g10)) p11 
oEnd))))))))) (kCond g11 (kSeq (oSet (xMove q5) p2 
oEnd) kRet) kSkip)) (kSeq (oSet (xMove g0) p12 
(oSet (xNil g12) p13 
(oSet (xLook (lkFieldAddr (nat_lit 0) g13)) p14 
(oSet (xLook (lkLoad1 g14)) p15 
(oSet (xCall q41 [g15]) p16 
(oSet (xLook (lkBuild q3 [((nat_lit 0), (nat_lit 1), g16), ((nat_lit 1), (nat_lit 1), q2)])) p17 
(oSet (xTurn (tnBox g17)) p18 
(oSet (xMove g18) p2 
oEnd)))))))) kRet)))⟩
noncomputable def k14 : KFun := ⟨[rTmp (nat_lit 0) g0], (kSeq (oSet (xMove q5) p0 
oEnd) (kSeq (oSet (xLook (lkBuild q3 [((nat_lit 1), (nat_lit 1), q2)])) p1 
(oSet (xTurn (tnBox g1)) p2 
(oSet (xMove g2) p0 
oEnd))) kRet))⟩
noncomputable def k15 : KFun := ⟨[rTmp (nat_lit 4) g4], (kSeq (oSet (xMove q0) p4 
oEnd) (kSeq (kSeq (oSet (xMove g0) p6 
(oSet (xLook (lkLen .sl g6)) p7 
(oSet (xMove g1) p8 
(oSet (xLook (lkLen .sl g8)) p9 
(oSet (xLook (lkEq true .int g7 g9)) p10 
oEnd))))) (kCond g10 (kSeq (oSet (xMove q0) p4 
oEnd) kRet) kSkip)) (kSeq (kSeq (oSet (xMove q6) p5 
oEnd) (kBlock (nat_lit 0) (kLoop (kSeq (kSeq (oSet (xMove g5) p11 
(oSet (xMove g0) p12 
(oSet (xLook (lkLen .sl g12)) p13 
(oSet (xLook (lkBin .lss g11 g13)) p14 
oEnd)))) (kCond g14 kSkip (kExit (nat_lit 0)))) (kSeq (kBlock (nat_lit 1) (kSeq (kDraw 
(dLook (nat_lit 0) [] [] (lkMove g0) p17 
(dLook (nat_lit 1) [] [] (lkMove g5) p18 
(dLook (nat_lit 2) [] [] (lkIxSl (nat_lit 1) g17 g18) p19 
(dLook (nat_lit 3) [] [] (lkLoad1 g19) p20 
(dLook (nat_lit 4) [] [] (lkMove g1) p21 
(dLook (nat_lit 5) [] [] (lkMove g5) p22 
(dLook (nat_lit 6) [] [] (lkIxSl (nat_lit 1) g21 g22) p23 
(dLook (nat_lit 7) [] [] (lkLoad1 g23) p24 
(dLook (nat_lit 8) [] [] (lkEq true .int g20 g24) p25 (dEnd [(nat_lit 17), (nat_lit 18), (nat_lit 19), (nat_lit 20), (nat_lit 21), (nat_lit 22), (nat_lit 23), (nat_lit 24), (nat_lit 25)]))))))))))) (kCond g25 (kSeq (oSet (xMove q0) p4 
oEnd) kRet) kSkip))) (oSet (xMove g5) p15 
(oSet (xLook (lkBin .add g15 q10)) p16 
(oSet (xMove g16) p5 
oEnd)))))))) (kSeq (oSet (xMove q2) p4 
oEnd) kRet))))⟩
noncomputable def k16 : KFun := ⟨[rTmp (nat_lit 4) g4], (kSeq (oSet (xMove q0) p4 
oEnd) (kSeq (kSeq (oSet (xMove g0) p6 
(oSet (xLook (lkLen .sl g6)) p7 
(oSet (xMove g1) p8 
(oSet (xLook (lkLen .sl g8)) p9 
(oSet (xLook (lkEq true .int g7 g9)) p10 
oEnd))))) (kCond g10 (kSeq (oSet (xMove q0) p4 
oEnd) kRet) kSkip)) (kSeq (kSeq (oSet (xMove q6) p5 
oEnd) (kBlock (nat_lit 0) (kLoop (kSeq (kSeq (oSet (xMove g5) p11 
(oSet (xMove g0) p12 
(oSet (xLook (lkLen .sl g12)) p13 
(oSet (xLook (lkBin .lss g11 g13)) p14 
oEnd)))) (kCond g14 kSkip (kExit (nat_lit 0)))) (kSeq (kBlock (nat_lit 1) (kSeq (kDraw 
(dLook (nat_lit 0) [] [] (lkMove g0) p17 
(dLook (nat_lit 1) [] [] (lkMove g5) p18 
(dLook (nat_lit 2) [] [] (lkIxSl (nat_lit 1) g17 g18) p19 
(dLook (nat_lit 3) [] [] (lkLoad1 g19) p20 
(dLook (nat_lit 4) [] [] (lkMove g1) p21 
(dLook (nat_lit 5) [] [] (lkMove g5) p22 
(dLook (nat_lit 6) [] [] (lkIxSl (nat_lit 1) g21 g22) p23 
(dLook (nat_lit 7) [] [] (lkLoad1 g23) p24 
(dLook (nat_lit 8) [] [] (lkEq true .str g20 g24) p25 (dEnd [(nat_lit 17), (nat_lit 18), (nat_lit 19), (nat_lit 20), (nat_lit 21), (nat_lit 22), (nat_lit 23), (nat_lit 24), (nat_lit 25)]))))))))))) (kCond g25 (kSeq (oSet (xMove q0) p4 
oEnd) kRet) kSkip))) (oSet (xMove g5) p15 
(oSet (xLook (lkBin .add g15 q10)) p16 
(oSet (xMove g16) p5 
oEnd)))))))) (kSeq (oSet (xMove q2) p4 
oEnd) kRet))))⟩
def q42 : OpdF := kC (.func (.func (nat_lit 25)) ⟨[]⟩ ⟨[]⟩)
def q43 : OpdF := kC (.func (.func (nat_lit 26)) ⟨[]⟩ ⟨[]⟩)
def q44 : OpdF := kC (.func (.func (nat_lit 27)) ⟨[]⟩ ⟨[]⟩)
def q45 : OpdF := kC (.func (.func (nat_lit 28)) ⟨[]⟩ ⟨[]⟩)
def q46 : OpdF := kC (.func (.func (nat_lit 29)) ⟨[]⟩ ⟨[]⟩)
def q47 : List Value := [(.slice none (nat_lit 0) (nat_lit 0)), (.slice none (nat_lit 0) (nat_lit 0))]
def q48 : OpdF := kC (.func (.func (nat_lit 30)) ⟨[]⟩ ⟨[]⟩)
noncomputable def k17 : KFun := ⟨[rTmp (nat_lit 2) g2, rTmp (nat_lit 3) g3], (kSeq (oSet (xMove q16) p2 
(oSet (xMove q6) p3 
oEnd)) (kSeq (kSeq (oSet (xMove g0) p14 
(oSet (xCall q42 [g14]) p15 
(oSet (xMove g15) p13 
(oSet (xLook (lkExtract (nat_lit 0) g13)) p16 
(oSet (xLook (lkExtract (nat_lit 1) g13)) p17 
(oSet (xMove g16) p4 
(oSet (xMove g17) p5 
oEnd))))))) (kSeq (oSet (xMove g4) p18 
(oSet (xLook (lkEq true .int g18 q6)) p19 
oEnd)) (kCond g19 (kSeq (oSet (xMove g4) p20 
(oSet (xMove q16) p2 
(oSet (xMove g20) p3 
oEnd))) kRet) kSkip))) (kSeq (oSet (xCall q43 []) p21 
(oSet (xMove g21) p6 
oEnd)) (kSeq (oSet (xMove g6) p22 
(oSet (xMove g0) p23 
(oSet (xLook (lkLen .sl g23)) p24 
(oSet (xCall q44 [g22, g24]) p25 
oEnd)))) (kSeq (oSet (xMove g6) p27 
(oSet (xCall q45 [g27]) p28 
(oSet (xMove g28) p26 
(oSet (xLook (lkExtract (nat_lit 0) g26)) p29 
(oSet (xLook (lkExtract (nat_lit 1) g26)) p30 
(oSet (xMove g29) p7 
(oSet (xMove g30) p8 
oEnd))))))) (kSeq (kSeq (oSet (xMove g0) p31 
(oSet (xLook (lkLen .sl g31)) p32 
(oSet (xMove q6) p33 
oEnd))) (kBlock (nat_lit 0) (kLoop (kSeq (oSet (xLook (lkBin .lss g33 g32)) p34 
oEnd) (kSeq (kCond g34 kSkip (kExit (nat_lit 0))) (kSeq (kBlock (nat_lit 1) (kSeq (oSet (xLook (lkIxSl (nat_lit 6) g31 g33)) p35 
(oSet (xLook (lkLoadN (nat_lit 6) g35)) p36 
(oSet (xTurn (tnAlloc q26)) p10 
(oDo (xTurn (tnStore (nat_lit 6) g10 g36)) 
oEnd)))) (kSeq (oSet (xLook (lkLoadN (nat_lit 6) g10)) p38 
(oSet (xCall q46 [g38]) p39 
(oSet (xMove g39) p37 
(oSet (xLook (lkExtract (nat_lit 0) g37)) p40 
(oSet (xLook (lkExtract (nat_lit 1) g37)) p41 
(oSet (xMove g40) p11 
(oSet (xMove g41) p12 
oEnd))))))) (oSet (xMove g7) p42 
(oSet (xMove g11) p43 
(oSet (xTurn (tnBuildSlice q47 [((nat_lit 0), (nat_lit 1), g42), ((nat_lit 1), (nat_lit 1), g43)] (nat_lit 2))) p44 
(oSet (xCall q48 [g44]) p45 
(oSet (xMove g45) p7 
oEnd)))))))) (oSet (xLook (lkBin .add g33 q10)) p46 
(oSet (xMove g46) p33 
oEnd)))))))) (kSeq (oSet (xMove g7) p47 
(oSet (xMove g47) p2 
(oSet (xMove q6) p3 
oEnd))) kRet)))))))⟩
def q49 : OpdF := kC (.func (.func (nat_lit 31)) ⟨[]⟩ ⟨[]⟩)
def q50 : List Value := [(.pointer none), (.bool false)]
def q51 : OpdF := kC (.func (.func (nat_lit 32)) ⟨[]⟩ ⟨[]⟩)
def q52 : OpdF := kC (.func (.func (nat_lit 33)) ⟨[]⟩ ⟨[]⟩)
def q53 : OpdF := kC (.func (.func (nat_lit 34)) ⟨[]⟩ ⟨[]⟩)
noncomputable def k18 : KFun := ⟨[rTmp (nat_lit 2) g2, rTmp (nat_lit 3) g3], (kSeq (oSet (xTurn (tnBox g0)) p1 
(oSet (xMove q16) p2 
(oSet (xMove q6) p3 
oEnd))) (kSeq (kDraw 
(dLook (nat_lit 0) [] [] (lkLoadN (nat_lit 10) g1) p7 
(dTurn (nat_lit 1) [] [] true (xCall q49 [g7]) p8 
(dLook (nat_lit 2) [] [] (lkFieldAddr (nat_lit 0) g1) p9 
(dLook (nat_lit 3) [(nat_lit 1)] [] (lkLoad1 g9) p10 
(dTurn (nat_lit 4) [] [] false (xTurn (tnAlloc q13)) p4 
(dTurn (nat_lit 5) [(nat_lit 3)] [(nat_lit 1)] true (xTurn (tnStore (nat_lit 10) g4 g8)) noDst 
(dLook (nat_lit 6) [] [(nat_lit 1), (nat_lit 5)] (lkMove g10) p5 (dEnd [(nat_lit 7), (nat_lit 8), (nat_lit 9), (nat_lit 10), (nat_lit 4), (nat_lit 5)]))))))))) (kSeq (oSet (xCall q43 []) p11 
(oSet (xLook (lkBuild q50 [((nat_lit 0), (nat_lit 1), g11)])) p12 
(oSet (xTurn (tnBox g12)) p13 
(oSet (xMove g13) p6 
oEnd)))) (kSeq (oSet (xMove g6) p14 
(oSet (xLook (lkMkIface (nat_lit 79) g14)) p15 
(oSet (xCall q51 [g15, g4]) p16 
oEnd))) (kSeq (oSet (xMove g6) p17 
(oSet (xLook (lkMkIface (nat_lit 79) g17)) p18 
(oSet (xMove g5) p19 
(oSet (xCall q52 [g18, g19, g4]) p20 
oEnd)))) (kSeq (kSeq (oSet (xMove g6) p21 
(oSet (xNil g21) p22 
(oSet (xLook (lkFieldAddr (nat_lit 1) g22)) p23 
(oSet (xLook (lkLoad1 g23)) p24 
(oSet (xMove g24) p25 
(oSetIf (wantF g25) (xLook (lkLoadN (nat_lit 10) g4)) p26 
(oSetIf (wantF g25) (xMove g5) p27 
(oSetIf (wantF g25) (xCall q53 [g26, g27]) p28 
(oSetIf (wantF g25) (xLook (lkUn .not g28)) p29 
(oSet (xLook (lkPick g25 q2 g29)) p30 
oEnd)))))))))) (kCond g30 (kSeq (oSet (xMove q16) p2 
(oSet (xMove q20) p3 
oEnd)) kRet) kSkip)) (kSeq (oSet (xMove g6) p31 
(oSet (xNil g31) p32 
(oSet (xLook (lkFieldAddr (nat_lit 0) g32)) p33 
(oSet (xLook (lkLoad1 g33)) p34 
(oSet (xCall q45 [g34]) p35 
(oSet (xLook (lkExtract (nat_lit 0) g35)) p36 
(oSet (xLook (lkExtract (nat_lit 1) g35)) p37 
(oSet (xMove g36) p2 
(oSet (xMove g37) p3 
oEnd))))))))) kRet)))))))⟩
def q54 : OpdF := kC (.func (.func (nat_lit 35)) ⟨[]⟩ ⟨[]⟩)
def q55 : OpdF := kC (.func (.func (nat_lit 36)) ⟨[]⟩ ⟨[]⟩)
def q56 : OpdF := kC (.int .i64 (.ofNat (nat_lit 399)))
def q57 : OpdF := kC (.func (.func (nat_lit 37)) ⟨[]⟩ ⟨[]⟩)
def q58 : OpdF := kC (.int .i64 (.ofNat (nat_lit 9223372036854775807)))
def q59 : OpdF := kC (.func (.func (nat_lit 38)) ⟨[]⟩ ⟨[]⟩)
def q60 : OpdF := kC (.int .i64 (.ofNat (nat_lit 65536)))
def q61 : List Value := [(.string ⟨⟨[]⟩⟩), (.string ⟨⟨[]⟩⟩)]
def q62 : OpdF := kC (.int .i64 (.ofNat (nat_lit 64)))
def q63 : List Value := [(.string ⟨⟨[]⟩⟩), (.string ⟨⟨[]⟩⟩), (.bool false)]
def q64 : OpdF := kC (.func (.func (nat_lit 39)) ⟨[]⟩ ⟨[]⟩)
noncomputable def k19 : KFun := ⟨[rCellN (nat_lit 2) g2 (nat_lit 5), rCellN (nat_lit 3) g3 (nat_lit 2)], (kSeq (oSet (xTurn (tnAlloc q22)) p2 
(oSet (xTurn (tnAlloc q32)) p3 
oEnd)) (kSeq (oSet (xMove g0) p8 
(oSet (xCall q54 [g8]) p9 
(oSet (xMove g9) p4 
oEnd))) (kSeq (oSet (xMove g4) p10 
(oSet (xCall q55 [g10, q6, q56]) p11 
(oSet (xLook (lkBuild q22 [((nat_lit 0), (nat_lit 1), g11)])) p12 
(oSet (xTurn (tnAlloc q22)) p5 
(oDo (xTurn (tnStore (nat_lit 5) g5 g12)) 
oEnd))))) (kSeq (kSeq (oSet (xLook (lkFieldAddr (nat_lit 0) g5)) p13 
(oSet (xLook (lkLoad1 g13)) p14 
(oSet (xLook (lkEq false .int g14 q6)) p15 
oEnd))) (kCond g15 (kSeq (kSeq (oSet (xMove g4) p16 
(oSet (xCall q57 [g16, q1]) p17 
(oSet (xMove q6) p18 
oEnd))) (kBlock (nat_lit 0) (kLoop (kSeq (oSet (xLook (lkBin .lss g18 g17)) p19 
oEnd) (kSeq (kCond g19 kSkip (kExit (nat_lit 0))) (kSeq (kBlock (nat_lit 1) (kDraw 
(dLook (nat_lit 0) [] [] (lkFieldAddr (nat_lit 1) g5) p20 
(dLook (nat_lit 1) [] [] (lkLoad1 g20) p21 
(dLook (nat_lit 2) [] [] (lkMove g4) p22 
(dTurn (nat_lit 3) [(nat_lit 1)] [] true (xCall q55 [g22, q6, q58]) p23 
(dTurn (nat_lit 4) [] [(nat_lit 3)] false (xTurn (tnBuildSlice q36 [((nat_lit 0), (nat_lit 1), g23)] (nat_lit 1))) p24 
(dTurn (nat_lit 5) [] [(nat_lit 3)] true (xTurn (tnAppend (nat_lit 1) g21 g24)) p25 
(dLook (nat_lit 6) [] [(nat_lit 3), (nat_lit 5)] (lkFieldAddr (nat_lit 1) g5) p26 
(dTurn (nat_lit 7) [] [(nat_lit 3), (nat_lit 5)] true (xTurn (tnStore (nat_lit 1) g26 g25)) noDst (dEnd [(nat_lit 20), (nat_lit 21), (nat_lit 22), (nat_lit 23), (nat_lit 24), (nat_lit 25), (nat_lit 26)]))))))))))) (oSet (xLook (lkBin .add g18 q10)) p27 
(oSet (xMove g27) p18 
oEnd)))))))) (kSeq (kSeq (oSet (xMove g4) p28 
(oSet (xCall q57 [g28, q1]) p29 
(oSet (xMove q6) p30 
oEnd))) (kBlock (nat_lit 2) (kLoop (kSeq (oSet (xLook (lkBin .lss g30 g29)) p31 
oEnd) (kSeq (kCond g31 kSkip (kExit (nat_lit 2))) (kSeq (kBlock (nat_lit 3) (kDraw 
(dLook (nat_lit 0) [] [] (lkFieldAddr (nat_lit 2) g5) p32 
(dLook (nat_lit 1) [] [] (lkLoad1 g32) p33 
(dLook (nat_lit 2) [] [] (lkMove g4) p34 
(dTurn (nat_lit 3) [(nat_lit 1)] [] true (xCall q59 [g34, q60]) p35 
(dTurn (nat_lit 4) [] [(nat_lit 3)] false (xTurn (tnBuildSlice q19 [((nat_lit 0), (nat_lit 1), g35)] (nat_lit 1))) p36 
(dTurn (nat_lit 5) [] [(nat_lit 3)] true (xTurn (tnAppend (nat_lit 1) g33 g36)) p37 
(dLook (nat_lit 6) [] [(nat_lit 3), (nat_lit 5)] (lkFieldAddr (nat_lit 2) g5) p38 
(dTurn (nat_lit 7) [] [(nat_lit 3), (nat_lit 5)] true (xTurn (tnStore (nat_lit 1) g38 g37)) noDst (dEnd [(nat_lit 32), (nat_lit 33), (nat_lit 34), (nat_lit 35), (nat_lit 36), (nat_lit 37), (nat_lit 38)]))))))))))) (oSet (xLook (lkBin .add g30 q10)) p39 
(oSet (xMove g39) p30 
oEnd)))))))) (kSeq (kSeq (oSet (xMove g4) p40 
(oSet (xCall q57 [g40, q1]) p41 
(oSet (xMove q6) p42 
oEnd))) (kBlock (nat_lit 4) (kLoop (kSeq (oSet (xLook (lkBin .lss g42 g41)) p43 
oEnd) (kSeq (kCond g43 kSkip (kExit (nat_lit 4))) (kSeq (kBlock (nat_lit 5) (kDraw 
(dLook (nat_lit 0) [] [] (lkFieldAddr (nat_lit 3) g5) p44 
(dLook (nat_lit 1) [] [] (lkLoad1 g44) p45 
(dLook (nat_lit 2) [] [] (lkMove g4) p46 
(dTurn (nat_lit 3) [(nat_lit 1)] [] true (xCall q59 [g46, q62]) p47 
(dLook (nat_lit 4) [] [] (lkMove g4) p48 
(dTurn (nat_lit 5) [(nat_lit 1)] [(nat_lit 3)] true (xCall q59 [g48, q62]) p49 
(dLook (nat_lit 6) [] [(nat_lit 3), (nat_lit 5)] (lkBuild q61 [((nat_lit 0), (nat_lit 1), g47), ((nat_lit 1), (nat_lit 1), g49)]) p50 
(dTurn (nat_lit 7) [] [(nat_lit 3), (nat_lit 5)] false (xTurn (tnBuildSlice q61 [((nat_lit 0), (nat_lit 2), g50)] (nat_lit 1))) p51 
(dTurn (nat_lit 8) [] [(nat_lit 3), (nat_lit 5)] true (xTurn (tnAppend (nat_lit 2) g45 g51)) p52 
(dLook (nat_lit 9) [] [(nat_lit 3), (nat_lit 5), (nat_lit 8)] (lkFieldAddr (nat_lit 3) g5) p53 
(dTurn (nat_lit 10) [] [(nat_lit 3), (nat_lit 5), (nat_lit 8)] true (xTurn (tnStore (nat_lit 1) g53 g52)) noDst (dEnd [(nat_lit 44), (nat_lit 45), (nat_lit 46), (nat_lit 47), (nat_lit 48), (nat_lit 49), (nat_lit 50), (nat_lit 51), (nat_lit 52), (nat_lit 53)])))))))))))))) (oSet (xLook (lkBin .add g42 q10)) p54 
(oSet (xMove g54) p42 
oEnd)))))))) (kSeq (oSet (xMove g4) p55 
(oSet (xCall q57 [g55, q1]) p56 
(oSet (xMove q6) p57 
oEnd))) (kBlock (nat_lit 6) (kLoop (kSeq (oSet (xLook (lkBin .lss g57 g56)) p58 
oEnd) (kSeq (kCond g58 kSkip (kExit (nat_lit 6))) (kSeq (kBlock (nat_lit 7) (kSeq (oSet (xMove g4) p59 
(oSet (xCall q59 [g59, q62]) p60 
(oSet (xMove g4) p61 
(oSet (xCall q55 [g61, q6, q10]) p62 
(oSet (xLook (lkEq false .int g62 q10)) p63 
(oSet (xLook (lkBuild q63 [((nat_lit 0), (nat_lit 1), g60), ((nat_lit 2), (nat_lit 1), g63)])) p64 
(oSet (xTurn (tnAlloc q63)) p6 
(oDo (xTurn (tnStore (nat_lit 3) g6 g64)) 
oEnd)))))))) (kSeq (kSeq (oSet (xLook (lkFieldAddr (nat_lit 2) g6)) p65 
(oSet (xLook (lkLoad1 g65)) p66 
(oSet (xLook (lkUn .not g66)) p67 
oEnd))) (kCond g67 (oSet (xMove g4) p68 
(oSet (xCall q59 [g68, q62]) p69 
(oSet (xLook (lkFieldAddr (nat_lit 1) g6)) p70 
(oDo (xTurn (tnStore (nat_lit 1) g70 g69)) 
oEnd)))) kSkip)) (oSet (xLook (lkFieldAddr (nat_lit 4) g5)) p71 
(oSet (xLook (lkLoad1 g71)) p72 
(oSet (xLook (lkLoadN (nat_lit 3) g6)) p73 
(oSet (xTurn (tnBuildSlice q63 [((nat_lit 0), (nat_lit 3), g73)] (nat_lit 1))) p74 
(oSet (xTurn (tnAppend (nat_lit 3) g72 g74)) p75 
(oSet (xLook (lkFieldAddr (nat_lit 4) g5)) p76 
(oDo (xTurn (tnStore (nat_lit 1) g76 g75)) 
oEnd)))))))))) (oSet (xLook (lkBin .add g57 q10)) p77 
(oSet (xMove g77) p57 
oEnd))))))))))) kSkip)) (kSeq (kSeq (oSet (xMove g4) p78 
(oSet (xCall q64 [g78]) p79 
(oSet (xTurn (tnAlloc q32)) p7 
(oDo (xTurn (tnStore (nat_lit 2) g7 g79)) 
oEnd)))) (kSeq (oSet (xLook (lkFieldAddr (nat_lit 0) g7)) p80 
(oSet (xLook (lkLoad1 g80)) p81 
(oSet (xLook (lkEq true .int g81 q6)) p82 
oEnd))) (kCond g82 (kSeq (kDraw 
(dLook (nat_lit 0) [] [] (lkBuild q22 []) p83 
(dLook (nat_lit 1) [] [] (lkLoadN (nat_lit 2) g7) p84 
(dTurn (nat_lit 2) [(nat_lit 1)] [] true (xTurn (tnStore (nat_lit 5) g2 g83)) noDst 
(dTurn (nat_lit 3) [] [(nat_lit 2)] true (xTurn (tnStore (nat_lit 2) g3 g84)) noDst (dEnd [(nat_lit 83), (nat_lit 84)])))))) kRet) kSkip))) (kSeq (oSet (xLook (lkLoadN (nat_lit 5) g5)) p85 
(oSet (xLook (lkBuild q32 [])) p86 
(oDo (xTurn (tnStore (nat_lit 5) g2 g85)) 
(oDo (xTurn (tnStore (nat_lit 2) g3 g86)) 
oEnd)))) kRet))))))⟩
def q65 : OpdF := kC (.int .i64 (.ofNat (nat_lit 16)))
def q66 : OpdF := kC (.int .i64 (.ofNat (nat_lit 3)))
def q67 : List Value := [(.string ⟨⟨[]⟩⟩), (.slice none (nat_lit 0) (nat_lit 0))]
def q68 : OpdF := kC (.func (.func (nat_lit 40)) ⟨[]⟩ ⟨[]⟩)
def q69 : OpdF := kC (.int .i64 (.ofNat (nat_lit 500)))
def q70 : List Value := [(.slice none (nat_lit 0) (nat_lit 0))]
def q71 : OpdF := kC (.func (.func (nat_lit 41)) ⟨[]⟩ ⟨[]⟩)
noncomputable def k21 : KFun := ⟨[rTmp (nat_lit 2) g2], (kSeq (oSet (xMove q16) p2 
oEnd) (kSeq (oSet (xMove q16) p3 
oEnd) (kSeq (kSeq (oSet (xMove g0) p9 
(oSet (xLook (lkLen .sl g9)) p10 
(oSet (xMove q6) p11 
oEnd))) (kBlock (nat_lit 0) (kLoop (kSeq (oSet (xLook (lkBin .lss g11 g10)) p12 
oEnd) (kSeq (kCond g12 kSkip (kExit (nat_lit 0))) (kSeq (kBlock (nat_lit 1) (kSeq (oSet (xLook (lkIxSl (nat_lit 2) g9 g11)) p13 
(oSet (xLook (lkLoadN (nat_lit 2) g13)) p14 
(oSet (xTurn (tnAlloc q67)) p5 
(oDo (xTurn (tnStore (nat_lit 2) g5 g14)) 
oEnd)))) (kSeq (oSet (xLook (lkFieldAddr (nat_lit 0) g5)) p15 
(oSet (xLook (lkLoad1 g15)) p16 
(oSet (xLook (lkBuild q67 [((nat_lit 0), (nat_lit 1), g16)])) p17 
(oSet (xTurn (tnAlloc q67)) p6 
(oDo (xTurn (tnStore (nat_lit 2) g6 g17)) 
oEnd))))) (kSeq (kSeq (oSet (xLook (lkFieldAddr (nat_lit 1) g5)) p18 
(oSet (xLook (lkLoad1 g18)) p19 
(oSet (xLook (lkLen .sl g19)) p20 
(oSet (xMove q6) p21 
oEnd)))) (kBlock (nat_lit 2) (kLoop (kSeq (oSet (xLook (lkBin .lss g21 g20)) p22 
oEnd) (kSeq (kCond g22 kSkip (kExit (nat_lit 2))) (kSeq (kBlock (nat_lit 3) (kSeq (oSet (xLook (lkIxSl (nat_lit 1) g19 g21)) p23 
(oSet (xLook (lkLoad1 g23)) p24 
(oSet (xMove g24) p8 
oEnd))) (kDraw 
(dLook (nat_lit 0) [] [] (lkFieldAddr (nat_lit 1) g6) p25 
(dLook (nat_lit 1) [] [] (lkLoad1 g25) p26 
(dLook (nat_lit 2) [] [] (lkMove g8) p27 
(dTurn (nat_lit 3) [(nat_lit 1)] [] true (xCall q71 [g27]) p28 
(dTurn (nat_lit 4) [] [(nat_lit 3)] false (xTurn (tnBuildSlice q70 [((nat_lit 0), (nat_lit 1), g28)] (nat_lit 1))) p29 
(dTurn (nat_lit 5) [] [(nat_lit 3)] true (xTurn (tnAppend (nat_lit 1) g26 g29)) p30 
(dLook (nat_lit 6) [] [(nat_lit 3), (nat_lit 5)] (lkFieldAddr (nat_lit 1) g6) p31 
(dTurn (nat_lit 7) [] [(nat_lit 3), (nat_lit 5)] true (xTurn (tnStore (nat_lit 1) g31 g30)) noDst (dEnd [(nat_lit 25), (nat_lit 26), (nat_lit 27), (nat_lit 28), (nat_lit 29), (nat_lit 30), (nat_lit 31)])))))))))))) (oSet (xLook (lkBin .add g21 q10)) p32 
(oSet (xMove g32) p21 
oEnd)))))))) (oSet (xMove g3) p33 
(oSet (xLook (lkLoadN (nat_lit 2) g6)) p34 
(oSet (xTurn (tnBuildSlice q67 [((nat_lit 0), (nat_lit 2), g34)] (nat_lit 1))) p35 
(oSet (xTurn (tnAppend (nat_lit 2) g33 g35)) p36 
(oSet (xMove g36) p3 
oEnd))))))))) (oSet (xLook (lkBin .add g11 q10)) p37 
(oSet (xMove g37) p11 
oEnd)))))))) (kSeq (oSet (xMove g3) p38 
(oSet (xMove g38) p2 
oEnd)) kRet))))⟩
def q72 : List Value := [(.pointer none), (.int .i64 (.ofNat (nat_lit 0))), (.int .i64 (.ofNat (nat_lit 0)))]
def q73 : OpdF := kC (.func (.func (nat_lit 42)) ⟨[]⟩ ⟨[]⟩)
noncomputable def k22 : KFun := ⟨[rCellN (nat_lit 2) g2 (nat_lit 10), rCellN (nat_lit 3) g3 (nat_lit 2)], (kSeq (oSet (xTurn (tnAlloc q13)) p2 
(oSet (xTurn (tnAlloc q32)) p3 
oEnd)) (kSeq (oSet (xMove g0) p8 
(oSet (xCall q54 [g8]) p9 
(oSet (xLook (lkBuild q72 [((nat_lit 0), (nat_lit 1), g9)])) p10 
(oSet (xTurn (tnBox g10)) p11 
(oSet (xMove g11) p4 
oEnd))))) (kSeq (oSet (xTurn (tnAlloc q13)) p5 
oEnd) (kSeq (oSet (xMove g4) p12 
(oSet (xLook (lkMkIface (nat_lit 98) g12)) p13 
(oSet (xCall q51 [g13, g5]) p14 
oEnd))) (kSeq (kSeq (oSet (xMove g4) p15 
(oSet (xCall q73 [g15]) p16 
(oSet (xTurn (tnAlloc q32)) p6 
(oDo (xTurn (tnStore (nat_lit 2) g6 g16)) 
oEnd)))) (kSeq (oSet (xLook (lkFieldAddr (nat_lit 0) g6)) p17 
(oSet (xLook (lkLoad1 g17)) p18 
(oSet (xLook (lkEq true .int g18 q6)) p19 
oEnd))) (kCond g19 (kSeq (kDraw 
(dLook (nat_lit 0) [] [] (lkBuild q13 []) p20 
(dLook (nat_lit 1) [] [] (lkLoadN (nat_lit 2) g6) p21 
(dTurn (nat_lit 2) [(nat_lit 1)] [] true (xTurn (tnStore (nat_lit 10) g2 g20)) noDst 
(dTurn (nat_lit 3) [] [(nat_lit 2)] true (xTurn (tnStore (nat_lit 2) g3 g21)) noDst (dEnd [(nat_lit 20), (nat_lit 21)])))))) kRet) kSkip))) (kSeq (oSet (xMove g4) p22 
(oSet (xLook (lkMkIface (nat_lit 98) g22)) p23 
(oSet (xLook (lkFieldAddr (nat_lit 0) g5)) p24 
(oSet (xLook (lkLoad1 g24)) p25 
(oSet (xCall q52 [g23, g25, g5]) p26 
oEnd))))) (kSeq (oSet (xMove g4) p27 
(oSet (xCall q73 [g27]) p28 
(oSet (xTurn (tnAlloc q32)) p7 
(oDo (xTurn (tnStore (nat_lit 2) g7 g28)) 
oEnd)))) (kSeq (kSeq (oSet (xLook (lkFieldAddr (nat_lit 0) g7)) p29 
(oSet (xLook (lkLoad1 g29)) p30 
(oSet (xLook (lkEq false .int g30 q6)) p31 
oEnd))) (kCond g31 (oSet (xMove g4) p32 
(oSet (xNil g32) p33 
(oSet (xLook (lkFieldAddr (nat_lit 0) g33)) p34 
(oSet (xLook (lkLoad1 g34)) p35 
(oSet (xCall q64 [g35]) p36 
(oDo (xTurn (tnStore (nat_lit 2) g7 g36)) 
oEnd)))))) kSkip)) (kSeq (kSeq (oSet (xLook (lkFieldAddr (nat_lit 0) g7)) p37 
(oSet (xLook (lkLoad1 g37)) p38 
(oSet (xLook (lkEq true .int g38 q6)) p39 
oEnd))) (kCond g39 (kSeq (kDraw 
(dLook (nat_lit 0) [] [] (lkBuild q13 []) p40 
(dLook (nat_lit 1) [] [] (lkLoadN (nat_lit 2) g7) p41 
(dTurn (nat_lit 2) [(nat_lit 1)] [] true (xTurn (tnStore (nat_lit 10) g2 g40)) noDst 
(dTurn (nat_lit 3) [] [(nat_lit 2)] true (xTurn (tnStore (nat_lit 2) g3 g41)) noDst (dEnd [(nat_lit 40), (nat_lit 41)])))))) kRet) kSkip)) (kSeq (oSet (xLook (lkLoadN (nat_lit 10) g5)) p42 
(oSet (xLook (lkBuild q32 [])) p43 
(oDo (xTurn (tnStore (nat_lit 10) g2 g42)) 
(oDo (xTurn (tnStore (nat_lit 2) g3 g43)) 
oEnd)))) kRet))))))))))⟩
def q74 : OpdF := kC (.func (.func (nat_lit 44)) ⟨[]⟩ ⟨[]⟩)
def q75 : OpdF := kC (.func (.func (nat_lit 46)) ⟨[]⟩ ⟨[]⟩)
def q76 : OpdF := kC (.func (.func (nat_lit 45)) ⟨[]⟩ ⟨[]⟩)
noncomputable def k23 : KFun := ⟨[rCellN (nat_lit 4) g4 (nat_lit 5)], (kSeq (oSet (xTurn (tnBox g0)) p2 
(oSet (xTurn (tnBox g1)) p3 
(oSet (xTurn (tnAlloc q22)) p4 
oEnd))) (kSeq (oSet (xLook (lkLoad1 g2)) p6 
(oSet (xNil g6) p7 
(oSet (xLook (lkFieldAddr (nat_lit 0) g7)) p8 
(oSet (xLook (lkLoad1 g8)) p9 
(oSet (xTurn (tnAlloc q70)) p5 
(oDo (xTurn (tnStore (nat_lit 1) g5 g9)) 
oEnd)))))) (kSeq (oSet (xLook (lkMkFunc (.func (nat_lit 43)) [] [g5, g4, g2])) p10 
(oDo (xDefer g10 []) 
oEnd)) (kSeq (kDraw 
(dLook (nat_lit 0) [] [] (lkLoad1 g2) p11 
(dTurn (nat_lit 1) [] [] true (xCall q74 [g11]) p12 
(dLook (nat_lit 2) [] [] (lkFieldAddr (nat_lit 0) g3) p13 
(dLook (nat_lit 3) [(nat_lit 1)] [] (lkLoad1 g13) p14 
(dLook (nat_lit 4) [] [(nat_lit 1)] (lkLookup (.one (.int .i64)) .nilFunc false g12 g14) p15 
(dLook (nat_lit 5) [(nat_lit 1)] [] (lkLoadN (nat_lit 10) g3) p16 
(dTurn (nat_lit 6) [] [(nat_lit 1)] true (xCall g15 [g16]) p17 
(dTurn (nat_lit 7) [] [(nat_lit 1), (nat_lit 6)] true (xTurn (tnStore (nat_lit 5) g4 g17)) noDst (dEnd [(nat_lit 11), (nat_lit 12), (nat_lit 13), (nat_lit 14), (nat_lit 15), (nat_lit 16), (nat_lit 17)])))))))))) (kSeq (oSet (xLook (lkLoadN (nat_lit 5) g4)) p18 
(oSet (xCall q75 [g18]) p19 
(oSet (xLook (lkEq true .int g19 q6)) p20 
(oSet (xCall q76 [g20, q66]) p21 
oEnd)))) (kSeq (oSet (xLook (lkLoadN (nat_lit 5) g4)) p22 
(oDo (xTurn (tnStore (nat_lit 5) g4 g22)) 
oEnd)) kRet))))))⟩
def q77 : OpdF := kC (.func (.func (nat_lit 47)) ⟨[]⟩ ⟨[]⟩)
noncomputable def k24 : KFun := ⟨[rTmp (nat_lit 2) g2, rTmp (nat_lit 3) g3], (kSeq (oSet (xTurn (tnBox g0)) p1 
(oSet (xMove q16) p2 
(oSet (xMove q6) p3 
oEnd))) (kSeq (kSeq (oSet (xLook (lkLoadN (nat_lit 5) g1)) p14 
(oSet (xCall q75 [g14]) p15 
(oSet (xMove g15) p4 
oEnd))) (kSeq (oSet (xMove g4) p16 
(oSet (xLook (lkEq true .int g16 q6)) p17 
oEnd)) (kCond g17 (kSeq (oSet (xMove g4) p18 
(oSet (xMove q16) p2 
(oSet (xMove g18) p3 
oEnd))) kRet) kSkip))) (kSeq (oSet (xCall q43 []) p19 
(oSet (xMove g19) p5 
oEnd)) (kSeq (oSet (xMove g5) p20 
(oSet (xLook (lkFieldAddr (nat_lit 0) g1)) p21 
(oSet (xLook (lkLoad1 g21)) p22 
(oSet (xCall q44 [g20, g22]) p23 
oEnd)))) (kSeq (kSeq (oSet (xLook (lkFieldAddr (nat_lit 0) g1)) p24 
(oSet (xLook (lkLoad1 g24)) p25 
(oSet (xLook (lkEq true .int g25 q6)) p26 
oEnd))) (kCond g26 (kSeq (oSet (xMove g5) p27 
(oSet (xCall q45 [g27]) p28 
(oSet (xLook (lkExtract (nat_lit 0) g28)) p29 
(oSet (xLook (lkExtract (nat_lit 1) g28)) p30 
(oSet (xMove g29) p2 
(oSet (xMove g30) p3 
oEnd)))))) kRet) kSkip)) (kSeq (oSet (xMove g5) p31 
(oSet (xLook (lkFieldAddr (nat_lit 1) g1)) p32 
(oSet (xLook (lkLoad1 g32)) p33 
(oSet (xLook (lkLen .sl g33)) p34 
(oSet (xCall q44 [g31, g34]) p35 
oEnd))))) (kSeq (kSeq (oSet (xLook (lkFieldAddr (nat_lit 1) g1)) p36 
(oSet (xLook (lkLoad1 g36)) p37 
(oSet (xLook (lkLen .sl g37)) p38 
(oSet (xMove q6) p39 
oEnd)))) (kBlock (nat_lit 0) (kLoop (kSeq (oSet (xLook (lkBin .lss g39 g38)) p40 
oEnd) (kSeq (kCond g40 kSkip (kExit (nat_lit 0))) (kSeq (kBlock (nat_lit 1) (kSeq (oSet (xLook (lkIxSl (nat_lit 1) g37 g39)) p41 
(oSet (xLook (lkLoad1 g41)) p42 
(oSet (xMove g42) p7 
oEnd))) (oSet (xMove g5) p43 
(oSet (xMove g7) p44 
(oSet (xCall q44 [g43, g44]) p45 
oEnd))))) (oSet (xLook (lkBin .add g39 q10)) p46 
(oSet (xMove g46) p39 
oEnd)))))))) (kSeq (oSet (xMove g5) p47 
(oSet (xLook (lkFieldAddr (nat_lit 2) g1)) p48 
(oSet (xLook (lkLoad1 g48)) p49 
(oSet (xLook (lkLen .sl g49)) p50 
(oSet (xCall q44 [g47, g50]) p51 
oEnd))))) (kSeq (kSeq (oSet (xLook (lkFieldAddr (nat_lit 2) g1)) p52 
(oSet (xLook (lkLoad1 g52)) p53 
(oSet (xLook (lkLen .sl g53)) p54 
(oSet (xMove q6) p55 
oEnd)))) (kBlock (nat_lit 2) (kLoop (kSeq (oSet (xLook (lkBin .lss g55 g54)) p56 
oEnd) (kSeq (kCond g56 kSkip (kExit (nat_lit 2))) (kSeq (kBlock (nat_lit 3) (kSeq (oSet (xLook (lkIxSl (nat_lit 1) g53 g55)) p57 
(oSet (xLook (lkLoad1 g57)) p58 
(oSet (xMove g58) p9 
oEnd))) (oSet (xMove g5) p59 
(oSet (xMove g9) p60 
(oSet (xCall q77 [g59, g60]) p61 
oEnd))))) (oSet (xLook (lkBin .add g55 q10)) p62 
(oSet (xMove g62) p55 
oEnd)))))))) (kSeq (oSet (xMove g5) p63 
(oSet (xLook (lkFieldAddr (nat_lit 3) g1)) p64 
(oSet (xLook (lkLoad1 g64)) p65 
(oSet (xLook (lkLen .sl g65)) p66 
(oSet (xCall q44 [g63, g66]) p67 
oEnd))))) (kSeq (kSeq (oSet (xLook (lkFieldAddr (nat_lit 3) g1)) p68 
(oSet (xLook (lkLoad1 g68)) p69 
(oSet (xLook (lkLen .sl g69)) p70 
(oSet (xMove q6) p71 
oEnd)))) (kBlock (nat_lit 4) (kLoop (kSeq (oSet (xLook (lkBin .lss g71 g70)) p72 
oEnd) (kSeq (kCond g72 kSkip (kExit (nat_lit 4))) (kSeq (kBlock (nat_lit 5) (kSeq (oSet (xLook (lkIxSl (nat_lit 2) g69 g71)) p73 
(oSet (xLook (lkLoadN (nat_lit 2) g73)) p74 
(oSet (xTurn (tnAlloc q61)) p11 
(oDo (xTurn (tnStore (nat_lit 2) g11 g74)) 
oEnd)))) (kSeq (oSet (xMove g5) p75 
(oSet (xLook (lkFieldAddr (nat_lit 0) g11)) p76 
(oSet (xLook (lkLoad1 g76)) p77 
(oSet (xCall q77 [g75, g77]) p78 
oEnd)))) (oSet (xMove g5) p79 
(oSet (xLook (lkFieldAddr (nat_lit 1) g11)) p80 
(oSet (xLook (lkLoad1 g80)) p81 
(oSet (xCall q77 [g79, g81]) p82 
oEnd))))))) (oSet (xLook (lkBin .add g71 q10)) p83 
(oSet (xMove g83) p71 
oEnd)))))))) (kSeq (oSet (xMove g5) p84 
(oSet (xLook (lkFieldAddr (nat_lit 4) g1)) p85 
(oSet (xLook (lkLoad1 g85)) p86 
(oSet (xLook (lkLen .sl g86)) p87 
(oSet (xCall q44 [g84, g87]) p88 
oEnd))))) (kSeq (kSeq (oSet (xLook (lkFieldAddr (nat_lit 4) g1)) p89 
(oSet (xLook (lkLoad1 g89)) p90 
(oSet (xLook (lkLen .sl g90)) p91 
(oSet (xMove q6) p92 
oEnd)))) (kBlock (nat_lit 6) (kLoop (kSeq (oSet (xLook (lkBin .lss g92 g91)) p93 
oEnd) (kSeq (kCond g93 kSkip (kExit (nat_lit 6))) (kSeq (kBlock (nat_lit 7) (kSeq (oSet (xLook (lkIxSl (nat_lit 3) g90 g92)) p94 
(oSet (xLook (lkLoadN (nat_lit 3) g94)) p95 
(oSet (xTurn (tnAlloc q63)) p13 
(oDo (xTurn (tnStore (nat_lit 3) g13 g95)) 
oEnd)))) (kSeq (oSet (xMove g5) p96 
(oSet (xLook (lkFieldAddr (nat_lit 0) g13)) p97 
(oSet (xLook (lkLoad1 g97)) p98 
(oSet (xCall q77 [g96, g98]) p99 
oEnd)))) (kSeq (kSeq (oSet (xLook (lkFieldAddr (nat_lit 2) g13)) p100 
(oSet (xLook (lkLoad1 g100)) p101 
oEnd)) (kCond g101 (kSeq (oSet (xMove g5) p102 
(oSet (xCall q44 [g102, q10]) p103 
oEnd)) (kExit (nat_lit 7))) kSkip)) (kSeq (oSet (xMove g5) p104 
(oSet (xCall q44 [g104, q6]) p105 
oEnd)) (oSet (xMove g5) p106 
(oSet (xLook (lkFieldAddr (nat_lit 1) g13)) p107 
(oSet (xLook (lkLoad1 g107)) p108 
(oSet (xCall q77 [g106, g108]) p109 
oEnd))))))))) (oSet (xLook (lkBin .add g92 q10)) p110 
(oSet (xMove g110) p92 
oEnd)))))))) (kSeq (oSet (xMove g5) p111 
(oSet (xCall q45 [g111]) p112 
(oSet (xLook (lkExtract (nat_lit 0) g112)) p113 
(oSet (xLook (lkExtract (nat_lit 1) g112)) p114 
(oSet (xMove g113) p2 
(oSet (xMove g114) p3 
oEnd)))))) kRet))))))))))))))⟩
def q78 : OpdF := kC (.int .i64 (.ofNat (nat_lit 60)))
def q79 : OpdF := kC (.func (.func (nat_lit 48)) ⟨[]⟩ ⟨[]⟩)
def q80 : OpdF := kC (.func (.func (nat_lit 49)) ⟨[]⟩ ⟨[]⟩)
def q81 : OpdF := kC (.int .i64 (.ofNat (nat_lit 5)))
def q82 : OpdF := kC (.func (.func (nat_lit 50)) ⟨[]⟩ ⟨[]⟩)
def q83 : OpdF := kC (.func (.func (nat_lit 51)) ⟨[]⟩ ⟨[]⟩)
def q84 : OpdF := kC (.int .i64 (.ofNat (nat_lit 512)))
noncomputable def k25 : KFun := ⟨[rTmp (nat_lit 2) g2, rTmp (nat_lit 3) g3], (kSeq (oSet (xMove q6) p2 
(oSet (xMove q6) p3 
oEnd)) (kSeq (kSeq (oSet (xMove g0) p10 
(oSet (xLook (lkLen .sl g10)) p11 
(oSet (xLook (lkBin .gtr g11 q78)) p12 
oEnd))) (kCond g12 (kSeq (oSet (xMove q66) p2 
(oSet (xMove q78) p3 
oEnd)) kRet) kSkip)) (kSeq (kSeq (oSet (xMove g0) p13 
(oSet (xLook (lkLen .sl g13)) p14 
(oSet (xMove q6) p15 
oEnd))) (kBlock (nat_lit 0) (kLoop (kSeq (oSet (xLook (lkBin .lss g15 g14)) p16 
oEnd) (kSeq (kCond g16 kSkip (kExit (nat_lit 0))) (kSeq (kBlock (nat_lit 1) (kSeq (oSet (xMove g15) p17 
(oSet (xLook (lkIxSl (nat_lit 6) g13 g15)) p18 
(oSet (xLook (lkLoadN (nat_lit 6) g18)) p19 
(oSet (xTurn (tnAlloc q26)) p5 
(oSet (xMove g17) p4 
(oDo (xTurn (tnStore (nat_lit 6) g5 g19)) 
oEnd)))))) (kSeq (oSet (xLook (lkLoadN (nat_lit 6) g5)) p20 
(oSet (xCall q79 [g20]) p21 
(oSet (xLook (lkEq true .int g21 q6)) p22 
oEnd))) (kCond g22 (kSeq (oSet (xMove g4) p23 
(oSet (xMove q20) p2 
(oSet (xMove g23) p3 
oEnd))) kRet) kSkip)))) (oSet (xLook (lkBin .add g15 q10)) p24 
(oSet (xMove g24) p15 
oEnd)))))))) (kSeq (kSeq (oSet (xMove g0) p25 
(oSet (xCall q80 [g25]) p26 
(oSet (xMove g26) p6 
oEnd))) (kSeq (oSet (xMove g6) p27 
(oSet (xLook (lkBin .geq g27 q6)) p28 
oEnd)) (kCond g28 (kSeq (oSet (xMove g6) p29 
(oSet (xMove q81) p2 
(oSet (xMove g29) p3 
oEnd))) kRet) kSkip))) (kSeq (oSet (xMove g0) p30 
(oSet (xLook (lkLen .sl g30)) p31 
(oSet (xCall q82 [g31]) p32 
(oSet (xMove g32) p7 
oEnd)))) (kSeq (kSeq (oSet (xMove g0) p33 
(oSet (xLook (lkLen .sl g33)) p34 
(oSet (xMove q6) p35 
oEnd))) (kBlock (nat_lit 2) (kLoop (kSeq (oSet (xLook (lkBin .lss g35 g34)) p36 
oEnd) (kSeq (kCond g36 kSkip (kExit (nat_lit 2))) (kSeq (kBlock (nat_lit 3) (kSeq (oSet (xMove g35) p37 
(oSet (xLook (lkIxSl (nat_lit 6) g33 g35)) p38 
(oSet (xLook (lkLoadN (nat_lit 6) g38)) p39 
(oSet (xTurn (tnAlloc q26)) p9 
(oSet (xMove g37) p8 
(oDo (xTurn (tnStore (nat_lit 6) g9 g39)) 
oEnd)))))) (kSeq (oSet (xMove g7) p40 
(oSet (xLook (lkLoadN (nat_lit 6) g9)) p41 
(oSet (xCall q83 [g41]) p42 
(oSet (xLook (lkBin .add g40 g42)) p43 
(oSet (xMove g43) p7 
oEnd))))) (kSeq (oSet (xMove g7) p44 
(oSet (xLook (lkBin .gtr g44 q84)) p45 
oEnd)) (kCond g45 (kSeq (oSet (xMove g8) p46 
(oSet (xMove q66) p2 
(oSet (xMove g46) p3 
oEnd))) kRet) kSkip))))) (oSet (xLook (lkBin .add g35 q10)) p47 
(oSet (xMove g47) p35 
oEnd)))))))) (kSeq (oSet (xMove q6) p2 
(oSet (xMove q6) p3 
oEnd)) kRet)))))))⟩
def q85 : List Value := [(.bool false), (.slice none (nat_lit 0) (nat_lit 0)), (.int .i64 (.ofNat (nat_lit 0))), (.int .i64 (.ofNat (nat_lit 0)))]
noncomputable def k26 : KFun := ⟨[rTmp (nat_lit 0) g0], (kSeq (oSet (xMove q5) p0 
oEnd) (kSeq (oSet (xLook (lkBuild q85 [((nat_lit 0), (nat_lit 1), q2)])) p1 
(oSet (xLook (lkBuild q85 [((nat_lit 0), (nat_lit 4), g1)])) p2 
(oSet (xTurn (tnBox g2)) p3 
(oSet (xMove g3) p0 
oEnd)))) kRet))⟩
def q86 : OpdF := kC (.func (.func (nat_lit 52)) ⟨[]⟩ ⟨[]⟩)
def q87 : OpdF := kC (.int .i64 (.ofNat (nat_lit 127)))
def q88 : OpdF := kC (.int .i64 (.ofNat (nat_lit 128)))
def q89 : List Value := [(.int .u8 (.ofNat (nat_lit 0)))]
def q90 : OpdF := kC (.int .u64 (.ofNat (nat_lit 7)))
noncomputable def k27 : KFun := ⟨[], (kSeq (kSeq (oSet (xMove g0) p4 
(oSet (xCall q86 [g4]) p5 
oEnd)) (kCond g5 kRet kSkip)) (kSeq (kSeq (oSet (xMove g1) p6 
(oSet (xLook (lkBin .lss g6 q6)) p7 
oEnd)) (kCond g7 (kSeq (oSet (xMove g0) p8 
(oSet (xNil g8) p9 
(oSet (xLook (lkFieldAddr (nat_lit 0) g9)) p10 
(oSet (xLook (lkFieldAddr (nat_lit 2) g10)) p11 
(oSet (xLook (lkFieldAddr (nat_lit 0) g11)) p12 
(oDo (xTurn (tnStore (nat_lit 1) g12 q81)) 
oEnd)))))) kRet) kSkip)) (kSeq (kBlock (nat_lit 0) (kLoop (kSeq (kSeq (oSet (xMove g1) p13 
(oSet (xLook (lkBin .gtr g13 q87)) p14 
oEnd)) (kCond g14 kSkip (kExit (nat_lit 0)))) (kSeq (kBlock (nat_lit 1) (oSet (xMove g0) p17 
(oSet (xMove g0) p18 
(oSet (xNil g18) p19 
(oSet (xLook (lkFieldAddr (nat_lit 0) g19)) p20 
(oSet (xLook (lkFieldAddr (nat_lit 1) g20)) p21 
(oSet (xLook (lkLoad1 g21)) p22 
(oSet (xMove g1) p23 
(oSet (xLook (lkBin .and g23 q87)) p24 
(oSet (xLook (lkBin .or g24 q88)) p25 
(oSet (xLook (lkIntTo .u8 g25)) p26 
(oSet (xTurn (tnBuildSlice q89 [((nat_lit 0), (nat_lit 1), g26)] (nat_lit 1))) p27 
(oSet (xTurn (tnAppend (nat_lit 1) g22 g27)) p28 
(oSet (xNil g17) p29 
(oSet (xLook (lkFieldAddr (nat_lit 0) g29)) p30 
(oSet (xLook (lkFieldAddr (nat_lit 1) g30)) p31 
(oDo (xTurn (tnStore (nat_lit 1) g31 g28)) 
oEnd))))))))))))))))) (oSet (xMove g1) p15 
(oSet (xLook (lkBin .shr g15 q90)) p16 
(oSet (xMove g16) p1 
oEnd))))))) (oSet (xMove g0) p32 
(oSet (xMove g0) p33 
(oSet (xNil g33) p34 
(oSet (xLook (lkFieldAddr (nat_lit 0) g34)) p35 
(oSet (xLook (lkFieldAddr (nat_lit 1) g35)) p36 
(oSet (xLook (lkLoad1 g36)) p37 
(oSet (xMove g1) p38 
(oSet (xLook (lkIntTo .u8 g38)) p39 
(oSet (xTurn (tnBuildSlice q89 [((nat_lit 0), (nat_lit 1), g39)] (nat_lit 1))) p40 
(oSet (xTurn (tnAppend (nat_lit 1) g37 g40)) p41 
(oSet (xNil g32) p42 
(oSet (xLook (lkFieldAddr (nat_lit 0) g42)) p43 
(oSet (xLook (lkFieldAddr (nat_lit 1) g43)) p44 
(oDo (xTurn (tnStore (nat_lit 1) g44 g41)) 
oEnd)))))))))))))))))⟩
noncomputable def k28 : KFun := ⟨[rTmp (nat_lit 2) g2, rTmp (nat_lit 3) g3], (kSeq (oSet (xMove q16) p2 
(oSet (xMove q6) p3 
oEnd)) (kSeq (kBlock (nat_lit 0) (kSeq (oSet (xMove g0) p5 
(oSet (xCall q86 [g5]) p6 
(oSet (xMove g6) p4 
oEnd))) (kCond g4 (kSeq (oSet (xMove q16) p2 
(oSet (xMove q10) p3 
oEnd)) kRet) (kSeq (oSet (xMove g0) p8 
(oSet (xNil g8) p9 
(oSet (xLook (lkFieldAddr (nat_lit 0) g9)) p10 
(oSet (xLook (lkFieldAddr (nat_lit 2) g10)) p11 
(oSet (xLook (lkFieldAddr (nat_lit 0) g11)) p12 
(oSet (xLook (lkLoad1 g12)) p13 
(oSet (xLook (lkEq true .int g13 q6)) p14 
(oSet (xMove g14) p7 
oEnd)))))))) (kCond g7 (kSeq (kDraw 
(dLook (nat_lit 0) [] [] (lkMove g0) p15 
(dTurn (nat_lit 1) [] [] false (xNil g15) p16 
(dLook (nat_lit 2) [] [] (lkFieldAddr (nat_lit 0) g16) p17 
(dLook (nat_lit 3) [] [] (lkFieldAddr (nat_lit 2) g17) p18 
(dLook (nat_lit 4) [] [] (lkFieldAddr (nat_lit 0) g18) p19 
(dLook (nat_lit 5) [] [] (lkLoad1 g19) p20 
(dLook (nat_lit 6) [] [] (lkMove q16) p2 
(dLook (nat_lit 7) [] [] (lkMove g20) p3 (dEnd [(nat_lit 15), (nat_lit 16), (nat_lit 17), (nat_lit 18), (nat_lit 19), (nat_lit 20), (nat_lit 2), (nat_lit 3)])))))))))) kRet) kSkip))))) (kSeq (oSet (xTurn (tnBuildSlice [] [] (nat_lit 0))) p21 
(oSet (xMove g0) p22 
(oSet (xNil g22) p23 
(oSet (xLook (lkFieldAddr (nat_lit 0) g23)) p24 
(oSet (xLook (lkFieldAddr (nat_lit 1) g24)) p25 
(oSet (xLook (lkLoad1 g25)) p26 
(oSet (xTurn (tnAppend (nat_lit 1) g21 g26)) p27 
(oSet (xMove g27) p2 
(oSet (xMove q6) p3 
oEnd))))))))) kRet)))⟩
def q91 : OpdF := kC (.func (.func (nat_lit 53)) ⟨[]⟩ ⟨[]⟩)
def q92 : OpdF := kC (.int .i32 (.ofNat (nat_lit 115)))
def q93 : OpdF := kC (.func (.func (nat_lit 54)) ⟨[]⟩ ⟨[]⟩)
noncomputable def k29 : KFun := ⟨[rTmp (nat_lit 2) g2, rTmp (nat_lit 3) g3], (kSeq (oSet (xTurn (tnBox g0)) p1 
(oSet (xMove q16) p2 
(oSet (xMove q6) p3 
oEnd))) (kSeq (kSeq (oSet (xLook (lkLoadN (nat_lit 6) g1)) p8 
(oSet (xCall q79 [g8]) p9 
(oSet (xMove g9) p4 
oEnd))) (kSeq (oSet (xMove g4) p10 
(oSet (xLook (lkEq true .int g10 q6)) p11 
oEnd)) (kCond g11 (kSeq (oSet (xMove g4) p12 
(oSet (xMove q16) p2 
(oSet (xMove g12) p3 
oEnd))) kRet) kSkip))) (kSeq (oSet (xCall q43 []) p13 
(oSet (xMove g13) p5 
oEnd)) (kSeq (oSet (xMove g5) p14 
(oSet (xLook (lkFieldAddr (nat_lit 0) g1)) p15 
(oSet (xLook (lkLoad1 g15)) p16 
(oSet (xCall q44 [g14, g16]) p17 
oEnd)))) (kSeq (kSeq (oSet (xLook (lkFieldAddr (nat_lit 0) g1)) p18 
(oSet (xLook (lkLoad1 g18)) p19 
(oSet (xCall q91 [g19]) p20 
(oSet (xTurn (tnRangeStr g20)) p21 
oEnd)))) (kBlock (nat_lit 0) (kLoop (kSeq (oSet (xTurn (tnNextStr g21)) p22 
(oSet (xLook (lkExtract (nat_lit 0) g22)) p23 
oEnd)) (kSeq (kCond g23 kSkip (kExit (nat_lit 0))) (kBlock (nat_lit 1) (kSeq (oSet (xLook (lkExtract (nat_lit 2) g22)) p24 
(oSet (xMove g24) p7 
oEnd)) (kSeq (oSet (xMove g7) p25 
(oSet (xLook (lkEq false .int g25 q92)) p26 
oEnd)) (kCond g26 (oSet (xMove g5) p27 
(oSet (xLook (lkFieldAddr (nat_lit 5) g1)) p28 
(oSet (xLook (lkLoad1 g28)) p29 
(oSet (xCall q77 [g27, g29]) p30 
oEnd)))) (oSet (xMove g5) p31 
(oSet (xMove g7) p32 
(oSet (xCall q93 [g1, g32]) p33 
(oSet (xNil g33) p34 
(oSet (xLook (lkLoad1 g34)) p35 
(oSet (xCall q44 [g31, g35]) p36 
oEnd))))))))))))))) (kSeq (oSet (xMove g5) p37 
(oSet (xCall q45 [g37]) p38 
(oSet (xLook (lkExtract (nat_lit 0) g38)) p39 
(oSet (xLook (lkExtract (nat_lit 1) g38)) p40 
(oSet (xMove g39) p2 
(oSet (xMove g40) p3 
oEnd)))))) kRet))))))⟩
noncomputable def k30 : KFun := ⟨[rTmp (nat_lit 2) g2], (kSeq (oSet (xMove q16) p2 
oEnd) (kSeq (oSet (xMove q16) p3 
oEnd) (kSeq (kSeq (oSet (xMove g0) p6 
(oSet (xLook (lkLen .sl g6)) p7 
(oSet (xMove q6) p8 
oEnd))) (kBlock (nat_lit 0) (kLoop (kSeq (oSet (xLook (lkBin .lss g8 g7)) p9 
oEnd) (kSeq (kCond g9 kSkip (kExit (nat_lit 0))) (kSeq (kBlock (nat_lit 1) (kSeq (oSet (xLook (lkIxSl (nat_lit 1) g6 g8)) p10 
(oSet (xLook (lkLoad1 g10)) p11 
(oSet (xMove g11) p5 
oEnd))) (oSet (xMove g3) p12 
(oSet (xMove g5) p13 
(oSet (xTurn (tnAppend (nat_lit 1) g12 g13)) p14 
(oSet (xMove g14) p3 
oEnd)))))) (oSet (xLook (lkBin .add g8 q10)) p15 
(oSet (xMove g15) p8 
oEnd)))))))) (kSeq (oSet (xMove g3) p16 
(oSet (xMove g16) p2 
oEnd)) kRet))))⟩
noncomputable def k31 : KFun := ⟨[rCellN (nat_lit 2) g2 (nat_lit 10)], (kSeq (oSet (xTurn (tnBox g0)) p1 
(oSet (xTurn (tnAlloc q13)) p2 
oEnd)) (kSeq (oSet (xTurn (tnBuildSlice [] [] (nat_lit 0))) p3 
(oSet (xLook (lkFieldAddr (nat_lit 7) g1)) p4 
(oSet (xLook (lkLoad1 g4)) p5 
(oSet (xTurn (tnAppend (nat_lit 1) g3 g5)) p6 
(oSet (xLook (lkFieldAddr (nat_lit 7) g1)) p7 
(oDo (xTurn (tnStore (nat_lit 1) g7 g6)) 
oEnd)))))) (kSeq (oSet (xTurn (tnBuildSlice [] [] (nat_lit 0))) p8 
(oSet (xLook (lkFieldAddr (nat_lit 8) g1)) p9 
(oSet (xLook (lkLoad1 g9)) p10 
(oSet (xTurn (tnAppend (nat_lit 3) g8 g10)) p11 
(oSet (xLook (lkFieldAddr (nat_lit 8) g1)) p12 
(oDo (xTurn (tnStore (nat_lit 1) g12 g11)) 
oEnd)))))) (kSeq (oSet (xLook (lkLoadN (nat_lit 10) g1)) p13 
(oDo (xTurn (tnStore (nat_lit 10) g2 g13)) 
oEnd)) kRet))))⟩
def q94 : OpdF := kC (.int .i64 (.ofNat (nat_lit 18)))
noncomputable def k32 : KFun := ⟨[], (kDraw 
(dLook (nat_lit 0) [] [] (lkMove g0) p4 
(dLook (nat_lit 1) [] [] (lkMove g1) p5 
(dTurn (nat_lit 2) [] [] false (xNil g5) p6 
(dLook (nat_lit 3) [] [] (lkFieldAddr (nat_lit 0) g6) p7 
(dLook (nat_lit 4) [] [] (lkMkFunc (.method "retcon/order.number") [g4] []) p8 
(dTurn (nat_lit 5) [] [] false (xNil g8) p9 
(dLook (nat_lit 6) [] [] (lkMove g4) p10 
(dTurn (nat_lit 7) [] [] true (xInvoke g10 "retcon/order.number" [g7, q10, q94, q6]) p11 (dEnd [(nat_lit 4), (nat_lit 5), (nat_lit 6), (nat_lit 7), (nat_lit 8), (nat_lit 9), (nat_lit 10), (nat_lit 11)]))))))))))⟩
def q95 : OpdF := kC (.func (.func (nat_lit 55)) ⟨[]⟩ ⟨[]⟩)
def q96 : OpdF := kC (.int .i32 (.ofNat (nat_lit 110)))
def q97 : OpdF := kC (.int .i64 (.ofNat (nat_lit 20)))
def q98 : OpdF := kC (.int .i32 (.ofNat (nat_lit 111)))
def q99 : OpdF := kC (.int .i32 (.ofNat (nat_lit 107)))
def q100 : OpdF := kC (.int .i32 (.ofNat (nat_lit 101)))
def q101 : OpdF := kC (.int .i32 (.ofNat (nat_lit 97)))
def q102 : OpdF := kC (.int .i32 (.ofNat (nat_lit 109)))
def q103 : OpdF := kC (.int .i64 (.ofNat (nat_lit 10)))
def q104 : OpdF := kC (.int .i32 (.ofNat (nat_lit 99)))
def q105 : OpdF := kC (.func (.func (nat_lit 56)) ⟨[]⟩ ⟨[]⟩)
def q106 : OpdF := kC (.int .i32 (.ofNat (nat_lit 120)))
def q107 : OpdF := kC (.func (.func (nat_lit 57)) ⟨[]⟩ ⟨[]⟩)
def q108 : OpdF := kC (.int .i32 (.ofNat (nat_lit 112)))
noncomputable def k33 : KFun := ⟨[], (kSeq (oSet (xMove g2) p8 
(oSet (xMove g1) p9 
(oSet (xNil g8) p10 
(oSet (xLook (lkFieldAddr (nat_lit 0) g10)) p11 
(oDo (xTurn (tnStore (nat_lit 1) g11 g9)) 
oEnd))))) (kSeq (oSet (xMove g1) p12 
(oSet (xCall q95 [g12]) p13 
(oSet (xTurn (tnRangeStr g13)) p14 
oEnd))) (kBlock (nat_lit 0) (kLoop (kSeq (oSet (xTurn (tnNextStr g14)) p15 
(oSet (xLook (lkExtract (nat_lit 0) g15)) p16 
oEnd)) (kSeq (kCond g16 kSkip (kExit (nat_lit 0))) (kBlock (nat_lit 1) (kSeq (oSet (xLook (lkExtract (nat_lit 2) g15)) p17 
(oSet (xMove g17) p7 
oEnd)) (kSeq (oSet (xMove g7) p18 
oEnd) (kBlock (nat_lit 2) (kSeq (oSet (xLook (lkEq false .int g18 q96)) p20 
(oSet (xMove g20) p19 
oEnd)) (kCond g19 (kDraw 
(dLook (nat_lit 0) [] [] (lkMove g0) p21 
(dLook (nat_lit 1) [] [] (lkMove g2) p22 
(dTurn (nat_lit 2) [] [] false (xNil g22) p23 
(dLook (nat_lit 3) [] [] (lkFieldAddr (nat_lit 1) g23) p24 
(dLook (nat_lit 4) [] [] (lkMkFunc (.method "retcon/order.text") [g21] []) p25 
(dTurn (nat_lit 5) [] [] false (xNil g25) p26 
(dLook (nat_lit 6) [] [] (lkMove g21) p27 
(dTurn (nat_lit 7) [] [] true (xInvoke g27 "retcon/order.text" [g24, q97]) p28 (dEnd [(nat_lit 21), (nat_lit 22), (nat_lit 23), (nat_lit 24), (nat_lit 25), (nat_lit 26), (nat_lit 27), (nat_lit 28)])))))))))) (kSeq (oSet (xLook (lkEq false .int g18 q98)) p30 
(oSet (xMove g30) p29 
oEnd)) (kCond g29 (kDraw 
(dLook (nat_lit 0) [] [] (lkMove g0) p31 
(dLook (nat_lit 1) [] [] (lkMove g2) p32 
(dTurn (nat_lit 2) [] [] false (xNil g32) p33 
(dLook (nat_lit 3) [] [] (lkFieldAddr (nat_lit 2) g33) p34 
(dLook (nat_lit 4) [] [] (lkMkFunc (.method "retcon/order.text") [g31] []) p35 
(dTurn (nat_lit 5) [] [] false (xNil g35) p36 
(dLook (nat_lit 6) [] [] (lkMove g31) p37 
(dTurn (nat_lit 7) [] [] true (xInvoke g37 "retcon/order.text" [g34, q97]) p38 (dEnd [(nat_lit 31), (nat_lit 32), (nat_lit 33), (nat_lit 34), (nat_lit 35), (nat_lit 36), (nat_lit 37), (nat_lit 38)])))))))))) (kSeq (oSet (xLook (lkEq false .int g18 q99)) p40 
(oSet (xMove g40) p39 
oEnd)) (kCond g39 (kDraw 
(dLook (nat_lit 0) [] [] (lkMove g0) p41 
(dLook (nat_lit 1) [] [] (lkMove g2) p42 
(dTurn (nat_lit 2) [] [] false (xNil g42) p43 
(dLook (nat_lit 3) [] [] (lkFieldAddr (nat_lit 3) g43) p44 
(dLook (nat_lit 4) [] [] (lkMkFunc (.method "retcon/order.text") [g41] []) p45 
(dTurn (nat_lit 5) [] [] false (xNil g45) p46 
(dLook (nat_lit 6) [] [] (lkMove g41) p47 
(dTurn (nat_lit 7) [] [] true (xInvoke g47 "retcon/order.text" [g44, q62]) p48 (dEnd [(nat_lit 41), (nat_lit 42), (nat_lit 43), (nat_lit 44), (nat_lit 45), (nat_lit 46), (nat_lit 47), (nat_lit 48)])))))))))) (kSeq (oSet (xLook (lkEq false .int g18 q100)) p50 
(oSet (xMove g50) p49 
oEnd)) (kCond g49 (kDraw 
(dLook (nat_lit 0) [] [] (lkMove g0) p51 
(dLook (nat_lit 1) [] [] (lkMove g2) p52 
(dTurn (nat_lit 2) [] [] false (xNil g52) p53 
(dLook (nat_lit 3) [] [] (lkFieldAddr (nat_lit 4) g53) p54 
(dLook (nat_lit 4) [] [] (lkMkFunc (.method "retcon/order.text") [g51] []) p55 
(dTurn (nat_lit 5) [] [] false (xNil g55) p56 
(dLook (nat_lit 6) [] [] (lkMove g51) p57 
(dTurn (nat_lit 7) [] [] true (xInvoke g57 "retcon/order.text" [g54, q62]) p58 (dEnd [(nat_lit 51), (nat_lit 52), (nat_lit 53), (nat_lit 54), (nat_lit 55), (nat_lit 56), (nat_lit 57), (nat_lit 58)])))))))))) (kSeq (oSet (xLook (lkEq false .int g18 q101)) p60 
(oSet (xMove g60) p59 
oEnd)) (kCond g59 (kDraw 
(dLook (nat_lit 0) [] [] (lkMove g0) p61 
(dLook (nat_lit 1) [] [] (lkMove g2) p62 
(dTurn (nat_lit 2) [] [] false (xNil g62) p63 
(dLook (nat_lit 3) [] [] (lkFieldAddr (nat_lit 5) g63) p64 
(dLook (nat_lit 4) [] [] (lkMkFunc (.method "retcon/order.number") [g61] []) p65 
(dTurn (nat_lit 5) [] [] false (xNil g65) p66 
(dLook (nat_lit 6) [] [] (lkMove g61) p67 
(dTurn (nat_lit 7) [] [] true (xInvoke g67 "retcon/order.number" [g64, q33, q69, q10]) p68 (dEnd [(nat_lit 61), (nat_lit 62), (nat_lit 63), (nat_lit 64), (nat_lit 65), (nat_lit 66), (nat_lit 67), (nat_lit 68)])))))))))) (kSeq (oSet (xLook (lkEq false .int g18 q102)) p70 
(oSet (xMove g70) p69 
oEnd)) (kCond g69 (kSeq (oSet (xMove g1) p71 
(oSet (xLook (lkEq false .int g71 q103)) p72 
oEnd)) (kCond g72 (kDraw 
(dLook (nat_lit 0) [] [] (lkMove g0) p73 
(dLook (nat_lit 1) [] [] (lkMove g2) p74 
(dTurn (nat_lit 2) [] [] false (xNil g74) p75 
(dLook (nat_lit 3) [] [] (lkFieldAddr (nat_lit 6) g75) p76 
(dLook (nat_lit 4) [] [] (lkMkFunc (.method "retcon/order.number") [g73] []) p77 
(dTurn (nat_lit 5) [] [] false (xNil g77) p78 
(dLook (nat_lit 6) [] [] (lkMove g73) p79 
(dTurn (nat_lit 7) [] [] true (xInvoke g79 "retcon/order.number" [g76, q10, q65, q6]) p80 (dEnd [(nat_lit 73), (nat_lit 74), (nat_lit 75), (nat_lit 76), (nat_lit 77), (nat_lit 78), (nat_lit 79), (nat_lit 80)])))))))))) (kDraw 
(dLook (nat_lit 0) [] [] (lkMove g0) p81 
(dLook (nat_lit 1) [] [] (lkMove g2) p82 
(dTurn (nat_lit 2) [] [] false (xNil g82) p83 
(dLook (nat_lit 3) [] [] (lkFieldAddr (nat_lit 6) g83) p84 
(dLook (nat_lit 4) [] [] (lkMkFunc (.method "retcon/order.number") [g81] []) p85 
(dTurn (nat_lit 5) [] [] false (xNil g85) p86 
(dLook (nat_lit 6) [] [] (lkMove g81) p87 
(dTurn (nat_lit 7) [] [] true (xInvoke g87 "retcon/order.number" [g84, q33, q69, q10]) p88 (dEnd [(nat_lit 81), (nat_lit 82), (nat_lit 83), (nat_lit 84), (nat_lit 85), (nat_lit 86), (nat_lit 87), (nat_lit 88)])))))))))))) (kSeq (oSet (xLook (lkEq false .int g18 q104)) p90 
(oSet (xMove g90) p89 
oEnd)) (kCond g89 (oSet (xMove g0) p91 
(oSet (xMove g2) p92 
(oSet (xCall q105 [g91, g92]) p93 
oEnd))) (kSeq (oSet (xLook (lkEq false .int g18 q106)) p95 
(oSet (xMove g95) p94 
oEnd)) (kCond g94 (oSet (xMove g0) p96 
(oSet (xMove g2) p97 
(oSet (xCall q107 [g96, g97]) p98 
oEnd))) (kSeq (oSet (xLook (lkEq false .int g18 q108)) p100 
(oSet (xMove g100) p99 
oEnd)) (kCond g99 (kDraw 
(dLook (nat_lit 0) [] [] (lkMove g0) p101 
(dLook (nat_lit 1) [] [] (lkMove g2) p102 
(dTurn (nat_lit 2) [] [] false (xNil g102) p103 
(dLook (nat_lit 3) [] [] (lkFieldAddr (nat_lit 9) g103) p104 
(dLook (nat_lit 4) [] [] (lkMkFunc (.method "retcon/order.number") [g101] []) p105 
(dTurn (nat_lit 5) [] [] false (xNil g105) p106 
(dLook (nat_lit 6) [] [] (lkMove g101) p107 
(dTurn (nat_lit 7) [] [] true (xInvoke g107 "retcon/order.number" [g104, q6, q20, q6]) p108 (dEnd [(nat_lit 101), (nat_lit 102), (nat_lit 103), (nat_lit 104), (nat_lit 105), (nat_lit 106), (nat_lit 107), (nat_lit 108)])))))))))) kSkip))))))))))))))))))))))))))))⟩
def q109 : List Value := [(.bool false), (.int .i64 (.ofNat (nat_lit 0))), (.string ⟨⟨[]⟩⟩)]
noncomputable def k34 : KFun := ⟨[rTmp (nat_lit 4) g4], (kSeq (oSet (xTurn (tnBox g0)) p2 
(oSet (xTurn (tnBox g1)) p3 
(oSet (xMove q0) p4 
oEnd))) (kSeq (kSeq (oSet (xLook (lkFieldAddr (nat_lit 8) g2)) p8 
(oSet (xLook (lkLoad1 g8)) p9 
(oSet (xLook (lkLen .sl g9)) p10 
(oSet (xMove q6) p11 
oEnd)))) (kBlock (nat_lit 0) (kLoop (kSeq (oSet (xLook (lkBin .lss g11 g10)) p12 
oEnd) (kSeq (kCond g12 kSkip (kExit (nat_lit 0))) (kSeq (kBlock (nat_lit 1) (kSeq (oSet (xLook (lkIxSl (nat_lit 3) g9 g11)) p13 
(oSet (xLook (lkLoadN (nat_lit 3) g13)) p14 
(oSet (xTurn (tnAlloc q109)) p6 
(oDo (xTurn (tnStore (nat_lit 3) g6 g14)) 
oEnd)))) (kSeq (oSet (xLook (lkFieldAddr (nat_lit 1) g6)) p15 
(oSet (xLook (lkLoad1 g15)) p16 
(oSet (xLook (lkEq true .int g16 q6)) p17 
(oSet (xMove g17) p18 
(oSetIf (wantF g18) (xLook (lkFieldAddr (nat_lit 2) g6)) p19 
(oSetIf (wantF g18) (xLook (lkLoad1 g19)) p20 
(oSetIf (wantF g18) (xLook (lkEq true .str g20 q25)) p21 
(oSet (xLook (lkPick g18 q2 g21)) p22 
oEnd)))))))) (kCond g22 (kSeq (oSet (xMove q0) p4 
oEnd) kRet) kSkip)))) (oSet (xLook (lkBin .add g11 q10)) p23 
(oSet (xMove g23) p11 
oEnd)))))))) (kSeq (oSet (xLook (lkMkFunc (.func (nat_lit 58)) [] [g3])) p24 
(oSet (xMove g24) p7 
oEnd)) (kSeq (oSet (xLook (lkFieldAddr (nat_lit 1) g2)) p25 
(oSet (xLook (lkLoad1 g25)) p26 
(oSet (xLook (lkEq false .str g26 q25)) p27 
(oSet (xMove g27) p28 
(oSetIf (wantT g28) (xLook (lkFieldAddr (nat_lit 2) g2)) p29 
(oSetIf (wantT g28) (xLook (lkLoad1 g29)) p30 
(oSetIf (wantT g28) (xLook (lkEq false .str g30 q25)) p31 
(oSet (xLook (lkPick g28 g31 q0)) p32 
(oSet (xMove g32) p33 
(oSetIf (wantT g33) (xLook (lkFieldAddr (nat_lit 3) g2)) p34 
(oSetIf (wantT g33) (xLook (lkLoad1 g34)) p35 
(oSetIf (wantT g33) (xLook (lkEq false .str g35 q25)) p36 
(oSet (xLook (lkPick g33 g36 q0)) p37 
(oSet (xMove g37) p38 
(oSetIf (wantT g38) (xLook (lkFieldAddr (nat_lit 4) g2)) p39 
(oSetIf (wantT g38) (xLook (lkLoad1 g39)) p40 
(oSetIf (wantT g38) (xLook (lkEq false .str g40 q25)) p41 
(oSet (xLook (lkPick g38 g41 q0)) p42 
(oSet (xMove g42) p43 
(oSetIf (wantT g43) (xLook (lkFieldAddr (nat_lit 5) g2)) p44 
(oSetIf (wantT g43) (xLook (lkLoad1 g44)) p45 
(oSetIf (wantT g43) (xLook (lkEq false .int g45 q6)) p46 
(oSet (xLook (lkPick g43 g46 q0)) p47 
(oSet (xMove g47) p48 
(oSetIf (wantT g48) (xLook (lkFieldAddr (nat_lit 6) g2)) p49 
(oSetIf (wantT g48) (xLook (lkLoad1 g49)) p50 
(oSetIf (wantT g48) (xLook (lkEq false .int g50 q6)) p51 
(oSet (xLook (lkPick g48 g51 q0)) p52 
(oSet (xMove g52) p53 
(oSetIf (wantT g53) (xLook (lkFieldAddr (nat_lit 9) g2)) p54 
(oSetIf (wantT g53) (xLook (lkLoad1 g54)) p55 
(oSetIf (wantT g53) (xLook (lkEq false .int g55 q6)) p56 
(oSet (xLook (lkPick g53 g56 q0)) p57 
(oSet (xMove g57) p58 
(oSetIf (wantT g58) (xLook (lkFieldAddr (nat_lit 7) g2)) p59 
(oSetIf (wantT g58) (xLook (lkLoad1 g59)) p60 
(oSetIf (wantT g58) (xLook (lkLen .sl g60)) p61 
(oSetIf (wantT g58) (xLook (lkEq false .int g61 q6)) p62 
(oSetIf (wantT g58) (xMove g62) p63 
(oSetIf (wantF g63) (xMove g7) p64 
(oSetIf (wantF g63) (xCall g64 [q104]) p65 
(oSetIf (wantT g58) (xLook (lkPick g63 q2 g65)) p66 
(oSet (xLook (lkPick g58 g66 q0)) p67 
(oSet (xMove g67) p68 
(oSetIf (wantT g68) (xLook (lkFieldAddr (nat_lit 8) g2)) p69 
(oSetIf (wantT g68) (xLook (lkLoad1 g69)) p70 
(oSetIf (wantT g68) (xLook (lkLen .sl g70)) p71 
(oSetIf (wantT g68) (xLook (lkEq false .int g71 q6)) p72 
(oSetIf (wantT g68) (xMove g72) p73 
(oSetIf (wantF g73) (xMove g7) p74 
(oSetIf (wantF g73) (xCall g74 [q106]) p75 
(oSetIf (wantT g68) (xLook (lkPick g73 q2 g75)) p76 
(oSet (xLook (lkPick g68 g76 q0)) p77 
(oSet (xMove g77) p4 
oEnd)))))))))))))))))))))))))))))))))))))))))))))))))))))) kRet))))⟩
def q110 : List Value := [(.bool false), (.slice none (nat_lit 0) (nat_lit 0)), (.int .i64 (.ofNat (nat_lit 0))), (.int .i64 (.ofNat (nat_lit 0))), (.int .i64 (.ofNat (nat_lit 0)))]
noncomputable def k35 : KFun := ⟨[rTmp (nat_lit 2) g2], (kSeq (oSet (xMove q5) p2 
oEnd) (kSeq (oSet (xTurn (tnBuildSlice [] [] (nat_lit 0))) p3 
(oSet (xMove g0) p4 
(oSet (xTurn (tnAppend (nat_lit 1) g3 g4)) p5 
(oSet (xLook (lkBuild q85 [((nat_lit 0), (nat_lit 1), q2), ((nat_lit 1), (nat_lit 1), g5)])) p6 
(oSet (xLook (lkBuild q110 [((nat_lit 0), (nat_lit 4), g6)])) p7 
(oSet (xTurn (tnBox g7)) p8 
(oSet (xMove g8) p2 
oEnd))))))) kRet))⟩
def q111 : OpdF := kC (.func (.func (nat_lit 59)) ⟨[]⟩ ⟨[]⟩)
noncomputable def k36 : KFun := ⟨[rTmp (nat_lit 6) g6], (kSeq (oSet (xTurn (tnBox g0)) p3 
(oSet (xTurn (tnBox g1)) p4 
(oSet (xTurn (tnBox g2)) p5 
(oSet (xMove q6) p6 
oEnd)))) (kSeq (oSet (xTurn (tnAlloc q36)) p7 
(oDo (xTurn (tnStore (nat_lit 1) g7 q6)) 
oEnd)) (kSeq (kSeq (oSet (xLook (lkLoad1 g3)) p8 
(oSet (xLook (lkMkFunc (.func (nat_lit 60)) [] [g3, g4, g5, g7])) p9 
(oSet (xCall q111 [g8, g9]) p10 
(oSet (xLook (lkUn .not g10)) p11 
oEnd)))) (kCond g11 (kSeq (oSet (xMove q6) p6 
oEnd) kRet) kSkip)) (kSeq (oSet (xLook (lkLoad1 g7)) p12 
(oSet (xMove g12) p6 
oEnd)) kRet))))⟩
noncomputable def k37 : KFun := ⟨[rTmp (nat_lit 4) g4], (kSeq (oSet (xTurn (tnBox g0)) p2 
(oSet (xTurn (tnBox g1)) p3 
(oSet (xMove q6) p4 
oEnd))) (kSeq (oSet (xTurn (tnAlloc q36)) p5 
(oDo (xTurn (tnStore (nat_lit 1) g5 q6)) 
oEnd)) (kSeq (kSeq (oSet (xLook (lkLoad1 g2)) p6 
(oSet (xLook (lkMkFunc (.func (nat_lit 62)) [] [g2, g3, g5])) p7 
(oSet (xCall q111 [g6, g7]) p8 
(oSet (xLook (lkUn .not g8)) p9 
oEnd)))) (kCond g9 (kSeq (oSet (xMove q6) p4 
oEnd) kRet) kSkip)) (kSeq (oSet (xLook (lkLoad1 g5)) p10 
(oSet (xMove g10) p4 
oEnd)) kRet))))⟩
noncomputable def k38 : KFun := ⟨[rTmp (nat_lit 4) g4], (kSeq (oSet (xTurn (tnBox g0)) p2 
(oSet (xTurn (tnBox g1)) p3 
(oSet (xMove q25) p4 
oEnd))) (kSeq (oSet (xTurn (tnAlloc q19)) p5 
(oDo (xTurn (tnStore (nat_lit 1) g5 q25)) 
oEnd)) (kSeq (kSeq (oSet (xLook (lkLoad1 g2)) p6 
(oSet (xLook (lkMkFunc (.func (nat_lit 63)) [] [g2, g3, g5])) p7 
(oSet (xCall q111 [g6, g7]) p8 
(oSet (xLook (lkUn .not g8)) p9 
oEnd)))) (kCond g9 (kSeq (oSet (xMove q25) p4 
oEnd) kRet) kSkip)) (kSeq (oSet (xLook (lkLoad1 g5)) p10 
(oSet (xMove g10) p4 
oEnd)) kRet))))⟩
def q112 : OpdF := kC (.func (.func (nat_lit 65)) ⟨[]⟩ ⟨[]⟩)
def q113 : OpdF := kC (.func (.func (nat_lit 66)) ⟨[]⟩ ⟨[]⟩)
noncomputable def k39 : KFun := ⟨[rCellN (nat_lit 2) g2 (nat_lit 2)], (kSeq (oSet (xTurn (tnAlloc q32)) p2 
oEnd) (kSeq (oSet (xMove g0) p4 
(oSet (xCall q112 [g4]) p5 
(oSet (xTurn (tnAlloc q32)) p3 
(oDo (xTurn (tnStore (nat_lit 2) g3 g5)) 
oEnd)))) (kSeq (kSeq (oSet (xLook (lkFieldAddr (nat_lit 0) g3)) p6 
(oSet (xLook (lkLoad1 g6)) p7 
(oSet (xLook (lkEq false .int g7 q6)) p8 
(oSet (xMove g8) p9 
(oSetIf (wantT g9) (xMove g0) p10 
(oSetIf (wantT g9) (xCall q113 [g10]) p11 
(oSetIf (wantT g9) (xLook (lkBin .gtr g11 q6)) p12 
(oSet (xLook (lkPick g9 g12 q0)) p13 
oEnd)))))))) (kCond g13 (oSet (xMove g0) p14 
(oSet (xNil g14) p15 
(oSet (xLook (lkFieldAddr (nat_lit 4) g15)) p16 
(oSet (xLook (lkLoad1 g16)) p17 
(oSet (xLook (lkBuild q32 [((nat_lit 0), (nat_lit 1), q27), ((nat_lit 1), (nat_lit 1), g17)])) p18 
(oDo (xTurn (tnStore (nat_lit 2) g3 g18)) 
oEnd)))))) kSkip)) (kSeq (oSet (xLook (lkLoadN (nat_lit 2) g3)) p19 
(oDo (xTurn (tnStore (nat_lit 2) g2 g19)) 
oEnd)) kRet))))⟩
def q114 : OpdF := kC (.func (.func (nat_lit 67)) ⟨[]⟩ ⟨[]⟩)
def q115 : OpdF := kC (.string ⟨⟨[97, 98, 99, 100, 101, 102, 103, 104, 105, 106, 107, 108, 109, 110, 111, 112, 113, 114, 115, 116, 117, 118, 119, 120, 121, 122, 48, 49, 50, 51, 52, 53, 54, 55, 56, 57, 46, 45, 95]⟩⟩)
noncomputable def k40 : KFun := ⟨[rTmp (nat_lit 2) g2], (kSeq (oSet (xMove q0) p2 
oEnd) (kSeq (oSet (xMove g0) p3 
(oSet (xLook (lkEq true .str g3 q25)) p4 
(oSet (xMove g4) p5 
(oSetIf (wantT g5) (xMove g0) p6 
(oSetIf (wantT g5) (xLook (lkLen .str g6)) p7 
(oSetIf (wantT g5) (xLook (lkBin .leq g7 q97)) p8 
(oSet (xLook (lkPick g5 g8 q0)) p9 
(oSet (xMove g9) p10 
(oSetIf (wantT g10) (xMove g0) p11 
(oSetIf (wantT g10) (xCall q114 [g11, q115]) p12 
(oSetIf (wantT g10) (xLook (lkEq false .str g12 q25)) p13 
(oSet (xLook (lkPick g10 g13 q0)) p14 
(oSet (xMove g14) p2 
oEnd))))))))))))) kRet))⟩
noncomputable def k42 : KFun := ⟨[rCellN (nat_lit 2) g2 (nat_lit 2)], (kSeq (oSet (xTurn (tnAlloc q32)) p2 
oEnd) (kSeq (kSeq (oSet (xMove g0) p3 
(oSet (xNil g3) p4 
(oSet (xLook (lkFieldAddr (nat_lit 1) g4)) p5 
(oSet (xLook (lkFieldAddr (nat_lit 0) g5)) p6 
(oSet (xLook (lkLoad1 g6)) p7 
(oSet (xLook (lkEq true .int g7 q6)) p8 
oEnd)))))) (kCond g8 (kSeq (oSet (xMove g0) p9 
(oSet (xNil g9) p10 
(oSet (xLook (lkFieldAddr (nat_lit 1) g10)) p11 
(oSet (xLook (lkLoadN (nat_lit 2) g11)) p12 
(oDo (xTurn (tnStore (nat_lit 2) g2 g12)) 
oEnd))))) kRet) kSkip)) (kSeq (oSet (xMove g0) p13 
(oSet (xNil g13) p14 
(oSet (xLook (lkFieldAddr (nat_lit 0) g14)) p15 
(oSet (xLook (lkLoad1 g15)) p16 
(oSet (xCall q112 [g16]) p17 
(oDo (xTurn (tnStore (nat_lit 2) g2 g17)) 
oEnd)))))) kRet)))⟩
def q116 : OpdF := kC .nilIface
noncomputable def k43 : KFun := ⟨[], (kSeq (oSet xRecover p6 
oEnd) (kBlock (nat_lit 0) (kSeq (oSet (xLook (lkEq false .ifaceNil g6 q116)) p8 
oEnd) (kCond g8 (oSet (xMove g6) p3 
oEnd) (kSeq (oSet (xLook (lkAssertT (nat_lit 102) (.agg ⟨[(.int .i64 (.ofNat (nat_lit 0)))]⟩) true g6)) p9 
(oSet (xLook (lkExtract (nat_lit 1) g9)) p10 
(oSet (xLook (lkExtract (nat_lit 0) g9)) p11 
oEnd))) (kCond g10 (kSeq (oSet (xTurn (tnAlloc q36)) p4 
(oDo (xTurn (tnStore (nat_lit 1) g4 g11)) 
oEnd)) (oSet (xLook (lkLoad1 g2)) p12 
(oSet (xLook (lkFieldAddr (nat_lit 0) g4)) p13 
(oSet (xLook (lkLoad1 g13)) p14 
(oSet (xLook (lkBuild q22 [((nat_lit 0), (nat_lit 1), g14)])) p15 
(oSet (xLook (lkLoad1 g0)) p16 
(oDo (xTurn (tnStore (nat_lit 5) g1 g15)) 
(oSet (xNil g12) p17 
(oSet (xLook (lkFieldAddr (nat_lit 0) g17)) p18 
(oDo (xTurn (tnStore (nat_lit 1) g18 g16)) 
oEnd)))))))))) (kSeq (oSet (xMove g6) p5 
oEnd) (oSet (xMove g5) p7 
(oDo (xPanic g7) 
oEnd)))))))))⟩
def q117 : OpdF := kC (.map none)
def q118 : OpdF := kC (.int .i64 (.ofNat (nat_lit 6)))
def q119 : OpdF := kC (.int .i64 (.ofNat (nat_lit 7)))
def q120 : OpdF := kC (.int .i64 (.ofNat (nat_lit 11)))
def q121 : OpdF := kC (.int .i64 (.ofNat (nat_lit 12)))
def q122 : OpdF := kC (.int .i64 (.ofNat (nat_lit 13)))
def q123 : OpdF := kC (.int .i64 (.ofNat (nat_lit 14)))
def q124 : OpdF := kC (.int .i64 (.ofNat (nat_lit 15)))
def q125 : OpdF := kC (.int .i64 (.ofNat (nat_lit 17)))
noncomputable def k44 : KFun := ⟨[rTmp (nat_lit 2) g2], (kSeq (oSet (xMove q117) p2 
oEnd) (kSeq (oSet (xTurn (tnMkMap (.one (.int .i64)))) p3 
(oSet (xMove g0) p4 
(oSet (xLook (lkMkFunc (.func (nat_lit 68)) [g4] [])) p5 
(oDo (xTurn (tnMapUpdate (.one (.int .i64)) g3 q10 g5)) 
(oSet (xMove g0) p6 
(oSet (xLook (lkMkFunc (.func (nat_lit 69)) [g6] [])) p7 
(oDo (xTurn (tnMapUpdate (.one (.int .i64)) g3 q20 g7)) 
(oSet (xMove g0) p8 
(oSet (xLook (lkMkFunc (.func (nat_lit 70)) [g8] [])) p9 
(oDo (xTurn (tnMapUpdate (.one (.int .i64)) g3 q66 g9)) 
(oSet (xMove g0) p10 
(oSet (xLook (lkMkFunc (.func (nat_lit 70)) [g10] [])) p11 
(oDo (xTurn (tnMapUpdate (.one (.int .i64)) g3 q27 g11)) 
(oSet (xMove g0) p12 
(oSet (xLook (lkMkFunc (.func (nat_lit 71)) [g12] [])) p13 
(oDo (xTurn (tnMapUpdate (.one (.int .i64)) g3 q81 g13)) 
(oSet (xMove g0) p14 
(oSet (xLook (lkMkFunc (.func (nat_lit 72)) [g14] [])) p15 
(oDo (xTurn (tnMapUpdate (.one (.int .i64)) g3 q118 g15)) 
(oSet (xMove g0) p16 
(oSet (xLook (lkMkFunc (.func (nat_lit 73)) [g16] [])) p17 
(oDo (xTurn (tnMapUpdate (.one (.int .i64)) g3 q119 g17)) 
(oSet (xMove g0) p18 
(oSet (xLook (lkMkFunc (.func (nat_lit 74)) [g18] [])) p19 
(oDo (xTurn (tnMapUpdate (.one (.int .i64)) g3 q35 g19)) 
(oSet (xMove g0) p20 
(oSet (xLook (lkMkFunc (.func (nat_lit 75)) [g20] [])) p21 
(oDo (xTurn (tnMapUpdate (.one (.int .i64)) g3 q37 g21)) 
(oSet (xMove g0) p22 
(oSet (xLook (lkMkFunc (.func (nat_lit 76)) [g22] [])) p23 
(oDo (xTurn (tnMapUpdate (.one (.int .i64)) g3 q103 g23)) 
(oSet (xMove g0) p24 
(oSet (xLook (lkMkFunc (.func (nat_lit 77)) [g24] [])) p25 
(oDo (xTurn (tnMapUpdate (.one (.int .i64)) g3 q120 g25)) 
(oSet (xMove g0) p26 
(oSet (xLook (lkMkFunc (.func (nat_lit 78)) [g26] [])) p27 
(oDo (xTurn (tnMapUpdate (.one (.int .i64)) g3 q121 g27)) 
(oSet (xMove g0) p28 
(oSet (xLook (lkMkFunc (.func (nat_lit 79)) [g28] [])) p29 
(oDo (xTurn (tnMapUpdate (.one (.int .i64)) g3 q122 g29)) 
(oSet (xMove g0) p30 
(oSet (xLook (lkMkFunc (.func (nat_lit 80)) [g30] [])) p31 
(oDo (xTurn (tnMapUpdate (.one (.int .i64)) g3 q123 g31)) 
(oSet (xMove g0) p32 
(oSet (xLook (lkMkFunc (.func (nat_lit 81)) [g32] [])) p33 
(oDo (xTurn (tnMapUpdate (.one (.int .i64)) g3 q124 g33)) 
(oSet (xMove g0) p34 
(oSet (xLook (lkMkFunc (.func (nat_lit 82)) [g34] [])) p35 
(oDo (xTurn (tnMapUpdate (.one (.int .i64)) g3 q65 g35)) 
(oSet (xMove g0) p36 
(oSet (xLook (lkMkFunc (.func (nat_lit 83)) [g36] [])) p37 
(oDo (xTurn (tnMapUpdate (.one (.int .i64)) g3 q125 g37)) 
(oSet (xMove g0) p38 
(oSet (xLook (lkMkFunc (.func (nat_lit 84)) [g38] [])) p39 
(oDo (xTurn (tnMapUpdate (.one (.int .i64)) g3 q94 g39)) 
(oSet (xMove g3) p40 
(oSet (xMove g40) p2 
oEnd))))))))))))))))))))))))))))))))))))))))))))))))))))))))) kRet))⟩
noncomputable def k45 : KFun := ⟨[], (kSeq (oSet (xMove g0) p4 
oEnd) (kCond g4 (oSet (xMove g1) p5 
(oSet (xLook (lkBuild q36 [((nat_lit 0), (nat_lit 1), g5)])) p6 
(oSet (xLook (lkMkIface (nat_lit 102) g6)) p7 
(oDo (xPanic g7) 
oEnd)))) kSkip))⟩
noncomputable def k46 : KFun := ⟨[rTmp (nat_lit 2) g2], (kSeq (oSet (xTurn (tnBox g0)) p1 
(oSet (xMove q6) p2 
oEnd)) (kSeq (oSet (xLook (lkFieldAddr (nat_lit 1) g1)) p12 
(oSet (xLook (lkLoad1 g12)) p13 
(oSet (xLook (lkLen .sl g13)) p14 
(oSet (xLook (lkFieldAddr (nat_lit 2) g1)) p15 
(oSet (xLook (lkLoad1 g15)) p16 
(oSet (xLook (lkLen .sl g16)) p17 
(oSet (xLook (lkFieldAddr (nat_lit 3) g1)) p18 
(oSet (xLook (lkLoad1 g18)) p19 
(oSet (xLook (lkLen .sl g19)) p20 
(oSet (xLook (lkFieldAddr (nat_lit 4) g1)) p21 
(oSet (xLook (lkLoad1 g21)) p22 
(oSet (xLook (lkLen .sl g22)) p23 
(oSet (xLook (lkMax g14 [g17, g20, g23])) p24 
(oSet (xMove g24) p3 
oEnd)))))))))))))) (kSeq (kSeq (oSet (xLook (lkFieldAddr (nat_lit 0) g1)) p25 
(oSet (xLook (lkLoad1 g25)) p26 
(oSet (xLook (lkBin .lss g26 q6)) p27 
(oSet (xMove g27) p28 
(oSetIf (wantF g28) (xLook (lkFieldAddr (nat_lit 0) g1)) p29 
(oSetIf (wantF g28) (xLook (lkLoad1 g29)) p30 
(oSetIf (wantF g28) (xLook (lkBin .gtr g30 q56)) p31 
(oSet (xLook (lkPick g28 q2 g31)) p32 
(oSet (xMove g32) p33 
(oSetIf (wantF g33) (xMove g3) p34 
(oSetIf (wantF g33) (xLook (lkBin .gtr g34 q1)) p35 
(oSet (xLook (lkPick g33 q2 g35)) p36 
(oSet (xMove g36) p37 
(oSetIf (wantF g37) (xLook (lkFieldAddr (nat_lit 0) g1)) p38 
(oSetIf (wantF g37) (xLook (lkLoad1 g38)) p39 
(oSetIf (wantF g37) (xLook (lkEq true .int g39 q6)) p40 
(oSetIf (wantF g37) (xMove g40) p41 
(oSetIf (wantT g41) (xMove g3) p42 
(oSetIf (wantT g41) (xLook (lkBin .gtr g42 q6)) p43 
(oSetIf (wantF g37) (xLook (lkPick g41 g43 q0)) p44 
(oSet (xLook (lkPick g37 q2 g44)) p45 
oEnd))))))))))))))))))))) (kCond g45 (kSeq (oSet (xMove q20) p2 
oEnd) kRet) kSkip)) (kSeq (kSeq (oSet (xLook (lkFieldAddr (nat_lit 1) g1)) p46 
(oSet (xLook (lkLoad1 g46)) p47 
(oSet (xLook (lkLen .sl g47)) p48 
(oSet (xMove q6) p49 
oEnd)))) (kBlock (nat_lit 0) (kLoop (kSeq (oSet (xLook (lkBin .lss g49 g48)) p50 
oEnd) (kSeq (kCond g50 kSkip (kExit (nat_lit 0))) (kSeq (kBlock (nat_lit 1) (kSeq (oSet (xLook (lkIxSl (nat_lit 1) g47 g49)) p51 
(oSet (xLook (lkLoad1 g51)) p52 
(oSet (xMove g52) p5 
oEnd))) (kSeq (oSet (xMove g5) p53 
(oSet (xLook (lkBin .lss g53 q6)) p54 
oEnd)) (kCond g54 (kSeq (oSet (xMove q20) p2 
oEnd) kRet) kSkip)))) (oSet (xLook (lkBin .add g49 q10)) p55 
(oSet (xMove g55) p49 
oEnd)))))))) (kSeq (kSeq (oSet (xLook (lkFieldAddr (nat_lit 2) g1)) p56 
(oSet (xLook (lkLoad1 g56)) p57 
(oSet (xLook (lkLen .sl g57)) p58 
(oSet (xMove q6) p59 
oEnd)))) (kBlock (nat_lit 2) (kLoop (kSeq (oSet (xLook (lkBin .lss g59 g58)) p60 
oEnd) (kSeq (kCond g60 kSkip (kExit (nat_lit 2))) (kSeq (kBlock (nat_lit 3) (kSeq (oSet (xLook (lkIxSl (nat_lit 1) g57 g59)) p61 
(oSet (xLook (lkLoad1 g61)) p62 
(oSet (xMove g62) p7 
oEnd))) (kSeq (oSet (xMove g7) p63 
(oSet (xLook (lkLen .str g63)) p64 
(oSet (xLook (lkBin .gtr g64 q60)) p65 
oEnd))) (kCond g65 (kSeq (oSet (xMove q20) p2 
oEnd) kRet) kSkip)))) (oSet (xLook (lkBin .add g59 q10)) p66 
(oSet (xMove g66) p59 
oEnd)))))))) (kSeq (kSeq (oSet (xLook (lkFieldAddr (nat_lit 3) g1)) p67 
(oSet (xLook (lkLoad1 g67)) p68 
(oSet (xLook (lkLen .sl g68)) p69 
(oSet (xMove q6) p70 
oEnd)))) (kBlock (nat_lit 4) (kLoop (kSeq (oSet (xLook (lkBin .lss g70 g69)) p71 
oEnd) (kSeq (kCond g71 kSkip (kExit (nat_lit 4))) (kSeq (kBlock (nat_lit 5) (kSeq (oSet (xLook (lkIxSl (nat_lit 2) g68 g70)) p72 
(oSet (xLook (lkLoadN (nat_lit 2) g72)) p73 
(oSet (xTurn (tnAlloc q61)) p9 
(oDo (xTurn (tnStore (nat_lit 2) g9 g73)) 
oEnd)))) (kSeq (oSet (xLook (lkFieldAddr (nat_lit 0) g9)) p74 
(oSet (xLook (lkLoad1 g74)) p75 
(oSet (xLook (lkLen .str g75)) p76 
(oSet (xLook (lkBin .gtr g76 q62)) p77 
(oSet (xMove g77) p78 
(oSetIf (wantF g78) (xLook (lkFieldAddr (nat_lit 1) g9)) p79 
(oSetIf (wantF g78) (xLook (lkLoad1 g79)) p80 
(oSetIf (wantF g78) (xLook (lkLen .str g80)) p81 
(oSetIf (wantF g78) (xLook (lkBin .gtr g81 q62)) p82 
(oSet (xLook (lkPick g78 q2 g82)) p83 
oEnd)))))))))) (kCond g83 (kSeq (oSet (xMove q20) p2 
oEnd) kRet) kSkip)))) (oSet (xLook (lkBin .add g70 q10)) p84 
(oSet (xMove g84) p70 
oEnd)))))))) (kSeq (kSeq (oSet (xLook (lkFieldAddr (nat_lit 4) g1)) p85 
(oSet (xLook (lkLoad1 g85)) p86 
(oSet (xLook (lkLen .sl g86)) p87 
(oSet (xMove q6) p88 
oEnd)))) (kBlock (nat_lit 6) (kLoop (kSeq (oSet (xLook (lkBin .lss g88 g87)) p89 
oEnd) (kSeq (kCond g89 kSkip (kExit (nat_lit 6))) (kSeq (kBlock (nat_lit 7) (kSeq (oSet (xLook (lkIxSl (nat_lit 3) g86 g88)) p90 
(oSet (xLook (lkLoadN (nat_lit 3) g90)) p91 
(oSet (xTurn (tnAlloc q63)) p11 
(oDo (xTurn (tnStore (nat_lit 3) g11 g91)) 
oEnd)))) (kSeq (oSet (xLook (lkFieldAddr (nat_lit 0) g11)) p92 
(oSet (xLook (lkLoad1 g92)) p93 
(oSet (xLook (lkLen .str g93)) p94 
(oSet (xLook (lkBin .gtr g94 q62)) p95 
(oSet (xMove g95) p96 
(oSetIf (wantF g96) (xLook (lkFieldAddr (nat_lit 1) g11)) p97 
(oSetIf (wantF g96) (xLook (lkLoad1 g97)) p98 
(oSetIf (wantF g96) (xLook (lkLen .str g98)) p99 
(oSetIf (wantF g96) (xLook (lkBin .gtr g99 q62)) p100 
(oSet (xLook (lkPick g96 q2 g100)) p101 
(oSet (xMove g101) p102 
(oSetIf (wantF g102) (xLook (lkFieldAddr (nat_lit 2) g11)) p103 
(oSetIf (wantF g102) (xLook (lkLoad1 g103)) p104 
(oSetIf (wantF g102) (xMove g104) p105 
(oSetIf (wantT g105) (xLook (lkFieldAddr (nat_lit 1) g11)) p106 
(oSetIf (wantT g105) (xLook (lkLoad1 g106)) p107 
(oSetIf (wantT g105) (xLook (lkEq true .str g107 q25)) p108 
(oSetIf (wantF g102) (xLook (lkPick g105 g108 q0)) p109 
(oSet (xLook (lkPick g102 q2 g109)) p110 
oEnd))))))))))))))))))) (kCond g110 (kSeq (oSet (xMove q20) p2 
oEnd) kRet) kSkip)))) (oSet (xLook (lkBin .add g88 q10)) p111 
(oSet (xMove g111) p88 
oEnd)))))))) (kSeq (oSet (xMove q6) p2 
oEnd) kRet))))))))⟩
noncomputable def k47 : KFun := ⟨[], (kSeq (kSeq (oSet (xMove g0) p4 
(oSet (xCall q86 [g4]) p5 
oEnd)) (kCond g5 kRet kSkip)) (kSeq (oSet (xMove g0) p6 
(oSet (xMove g1) p7 
(oSet (xLook (lkLen .str g7)) p8 
(oSet (xCall q44 [g6, g8]) p9 
oEnd)))) (oSet (xMove g0) p10 
(oSet (xMove g0) p11 
(oSet (xNil g11) p12 
(oSet (xLook (lkFieldAddr (nat_lit 0) g12)) p13 
(oSet (xLook (lkFieldAddr (nat_lit 1) g13)) p14 
(oSet (xLook (lkLoad1 g14)) p15 
(oSet (xMove g1) p16 
(oSet (xTurn (tnAppend (nat_lit 1) g15 g16)) p17 
(oSet (xNil g10) p18 
(oSet (xLook (lkFieldAddr (nat_lit 0) g18)) p19 
(oSet (xLook (lkFieldAddr (nat_lit 1) g19)) p20 
(oDo (xTurn (tnStore (nat_lit 1) g20 g17)) 
oEnd))))))))))))))⟩
def q126 : OpdF := kC (.func (.func (nat_lit 85)) ⟨[]⟩ ⟨[]⟩)
noncomputable def k48 : KFun := ⟨[rTmp (nat_lit 2) g2], (kSeq (oSet (xTurn (tnBox g0)) p1 
(oSet (xMove q6) p2 
oEnd)) (kSeq (kSeq (oSet (xLook (lkFieldAddr (nat_lit 0) g1)) p9 
(oSet (xLook (lkLoad1 g9)) p10 
(oSet (xLook (lkBin .lss g10 q10)) p11 
(oSet (xMove g11) p12 
(oSetIf (wantF g12) (xLook (lkFieldAddr (nat_lit 0) g1)) p13 
(oSetIf (wantF g12) (xLook (lkLoad1 g13)) p14 
(oSetIf (wantF g12) (xLook (lkBin .gtr g14 q124)) p15 
(oSet (xLook (lkPick g12 q2 g15)) p16 
oEnd)))))))) (kCond g16 (kSeq (oSet (xMove q20) p2 
oEnd) kRet) kSkip)) (kSeq (oSet (xLook (lkLoadN (nat_lit 6) g1)) p17 
(oSet (xTurn (tnAlloc q26)) p3 
(oDo (xTurn (tnStore (nat_lit 6) g3 g17)) 
oEnd))) (kSeq (oSet (xLook (lkFieldAddr (nat_lit 0) g3)) p18 
(oDo (xTurn (tnStore (nat_lit 1) g18 q6)) 
oEnd)) (kSeq (kSeq (oSet (xLook (lkFieldAddr (nat_lit 0) g1)) p19 
(oSet (xLook (lkLoad1 g19)) p20 
(oSet (xCall q91 [g20]) p21 
(oSet (xTurn (tnRangeStr g21)) p22 
oEnd)))) (kBlock (nat_lit 0) (kLoop (kSeq (oSet (xTurn (tnNextStr g22)) p23 
(oSet (xLook (lkExtract (nat_lit 0) g23)) p24 
oEnd)) (kSeq (kCond g24 kSkip (kExit (nat_lit 0))) (kBlock (nat_lit 1) (kSeq (oSet (xLook (lkExtract (nat_lit 2) g23)) p25 
(oSet (xMove g25) p5 
oEnd)) (kSeq (kSeq (oSet (xMove g5) p26 
(oSet (xLook (lkEq false .int g26 q92)) p27 
oEnd)) (kCond g27 (kSeq (kSeq (oSet (xLook (lkFieldAddr (nat_lit 5) g1)) p28 
(oSet (xLook (lkLoad1 g28)) p29 
(oSet (xLook (lkLen .str g29)) p30 
(oSet (xLook (lkBin .gtr g30 q62)) p31 
oEnd)))) (kCond g31 (kSeq (oSet (xMove q20) p2 
oEnd) kRet) kSkip)) (kSeq (oSet (xLook (lkFieldAddr (nat_lit 5) g3)) p32 
(oDo (xTurn (tnStore (nat_lit 1) g32 q25)) 
oEnd)) (kExit (nat_lit 1)))) kSkip)) (kSeq (oSet (xMove q6) p6 
(oSet (xMove q119) p7 
oEnd)) (kSeq (kSeq (oSet (xMove g5) p33 
(oSet (xLook (lkEq false .int g33 q96)) p34 
oEnd)) (kCond g34 (oSet (xLook (lkFieldAddr (nat_lit 0) g1)) p35 
(oSet (xLook (lkLoad1 g35)) p36 
(oSet (xCall q126 [g36]) p37 
(oSet (xMove q10) p6 
(oSet (xMove g37) p7 
oEnd))))) kSkip)) (kSeq (oSet (xMove g5) p38 
(oSet (xCall q93 [g3, g38]) p39 
(oSet (xMove g39) p8 
oEnd))) (kSeq (kSeq (oSet (xMove g8) p40 
(oSet (xNil g40) p41 
(oSet (xLook (lkLoad1 g41)) p42 
(oSet (xMove g6) p43 
(oSet (xLook (lkBin .lss g42 g43)) p44 
(oSet (xMove g44) p45 
(oSetIf (wantF g45) (xMove g8) p46 
(oSetIf (wantF g45) (xNil g46) p47 
(oSetIf (wantF g45) (xLook (lkLoad1 g47)) p48 
(oSetIf (wantF g45) (xMove g7) p49 
(oSetIf (wantF g45) (xLook (lkBin .gtr g48 g49)) p50 
(oSet (xLook (lkPick g45 q2 g50)) p51 
oEnd)))))))))))) (kCond g51 (kSeq (oSet (xMove q20) p2 
oEnd) kRet) kSkip)) (oSet (xMove g8) p52 
(oSet (xNil g52) p53 
(oDo (xTurn (tnStore (nat_lit 1) g53 q6)) 
oEnd))))))))))))))) (kSeq (kSeq (oSet (xLook (lkLoadN (nat_lit 6) g3)) p54 
(oSet (xLook (lkBuild q26 [])) p55 
(oSet (xLook (lkEq true (.flat [(.int .i64), (.int .i64), (.int .i64), (.int .i64), (.int .i64), .str]) g54 g55)) p56 
oEnd))) (kCond g56 (kSeq (oSet (xMove q20) p2 
oEnd) kRet) kSkip)) (kSeq (oSet (xMove q6) p2 
oEnd) kRet)))))))⟩
def q127 : OpdF := kC (.func (.func (nat_lit 86)) ⟨[]⟩ ⟨[]⟩)
noncomputable def k49 : KFun := ⟨[rTmp (nat_lit 2) g2], (kSeq (oSet (xMove q6) p2 
oEnd) (kSeq (kSeq (oSet (xMove g0) p4 
(oSet (xLook (lkLen .sl g4)) p5 
(oSet (xMove q6) p6 
oEnd))) (kBlock (nat_lit 0) (kLoop (kSeq (oSet (xLook (lkBin .lss g6 g5)) p7 
oEnd) (kSeq (kCond g7 kSkip (kExit (nat_lit 0))) (kSeq (kBlock (nat_lit 1) (kSeq (oSet (xMove g6) p8 
(oSet (xMove g8) p3 
oEnd)) (kSeq (oSet (xMove g0) p9 
(oSet (xMove g3) p10 
(oSet (xCall q127 [g9, g10]) p11 
oEnd))) (kCond g11 (kSeq (oSet (xMove g3) p12 
(oSet (xMove g12) p2 
oEnd)) kRet) kSkip)))) (oSet (xLook (lkBin .add g6 q10)) p13 
(oSet (xMove g13) p6 
oEnd)))))))) (kSeq (oSet (xMove q33) p2 
oEnd) kRet)))⟩
noncomputable def k50 : KFun := ⟨[rTmp (nat_lit 2) g2], (kSeq (oSet (xMove q6) p2 
oEnd) (kSeq (kSeq (oSet (xMove g0) p4 
(oSet (xLook (lkBin .lss g4 q6)) p5 
oEnd)) (kCond g5 (kSeq (oSet (xMove q6) p2 
oEnd) kRet) kSkip)) (kSeq (oSet (xMove q10) p3 
oEnd) (kSeq (kSeq (oSet (xMove g0) p6 
(oSet (xLook (lkBin .shr g6 q90)) p7 
(oSet (xMove g7) p0 
oEnd))) (kBlock (nat_lit 0) (kLoop (kSeq (kSeq (oSet (xMove g0) p8 
(oSet (xLook (lkBin .gtr g8 q6)) p9 
oEnd)) (kCond g9 kSkip (kExit (nat_lit 0)))) (kSeq (kBlock (nat_lit 1) (oSet (xMove g3) p12 
(oSet (xLook (lkBin .add g12 q10)) p13 
(oSet (xMove g13) p3 
oEnd)))) (oSet (xMove g0) p10 
(oSet (xLook (lkBin .shr g10 q90)) p11 
(oSet (xMove g11) p0 
oEnd)))))))) (kSeq (oSet (xMove g3) p14 
(oSet (xMove g14) p2 
oEnd)) kRet)))))⟩
noncomputable def k51 : KFun := ⟨[rTmp (nat_lit 2) g2], (kSeq (oSet (xTurn (tnBox g0)) p1 
(oSet (xMove q6) p2 
oEnd)) (kSeq (oSet (xLook (lkLoadN (nat_lit 6) g1)) p6 
(oSet (xCall q46 [g6]) p7 
(oSet (xMove g7) p5 
(oSet (xLook (lkExtract (nat_lit 0) g5)) p8 
(oSet (xLook (lkExtract (nat_lit 1) g5)) p9 
(oSet (xMove g8) p3 
(oSet (xMove g9) p4 
oEnd))))))) (kSeq (oSet (xMove g3) p10 
(oSet (xLook (lkLen .sl g10)) p11 
(oSet (xMove g11) p2 
oEnd))) kRet)))⟩
def q128 : OpdF := kC (.func (.func (nat_lit 87)) ⟨[]⟩ ⟨[]⟩)
noncomputable def k52 : KFun := ⟨[rTmp (nat_lit 2) g2], (kSeq (oSet (xMove q0) p2 
oEnd) (kSeq (oSet (xMove g0) p3 
(oSet (xLook (lkEq false .ptr g3 q5)) p4 
(oSet (xMove g4) p5 
(oSetIf (wantF g5) (xMove g0) p6 
(oSetIf (wantF g5) (xNil g6) p7 
(oSetIf (wantF g5) (xLook (lkFieldAddr (nat_lit 0) g7)) p8 
(oSetIf (wantF g5) (xCall q128 [g8]) p9 
(oSet (xLook (lkPick g5 q2 g9)) p10 
(oSet (xMove g10) p2 
oEnd))))))))) kRet))⟩
def q129 : List Value := [(.string ⟨⟨[]⟩⟩), (.string ⟨⟨[]⟩⟩), (.string ⟨⟨[]⟩⟩), (.string ⟨⟨[]⟩⟩), (.string ⟨⟨[]⟩⟩), (.string ⟨⟨[]⟩⟩), (.string ⟨⟨[]⟩⟩), (.string ⟨⟨[]⟩⟩), (.string ⟨⟨[]⟩⟩), (.string ⟨⟨[]⟩⟩), (.string ⟨⟨[]⟩⟩), (.string ⟨⟨[]⟩⟩), (.string ⟨⟨[]⟩⟩), (.string ⟨⟨[]⟩⟩), (.string ⟨⟨[]⟩⟩), (.string ⟨⟨[]⟩⟩)]
def q130 : OpdF := kC (.string ⟨⟨[97, 115]⟩⟩)
def q131 : OpdF := kC (.string ⟨⟨[97, 98]⟩⟩)
def q132 : OpdF := kC (.string ⟨⟨[97, 98, 99]⟩⟩)
def q133 : OpdF := kC (.string ⟨⟨[97, 98, 99, 110]⟩⟩)
def q134 : OpdF := kC (.string ⟨⟨[97, 110]⟩⟩)
def q135 : OpdF := kC (.string ⟨⟨[110]⟩⟩)
noncomputable def k53 : KFun := ⟨[rTmp (nat_lit 2) g2], (kSeq (oSet (xMove q25) p2 
oEnd) (kSeq (oSet (xLook (lkBuild q129 [((nat_lit 1), (nat_lit 1), q130), ((nat_lit 2), (nat_lit 1), q131), ((nat_lit 3), (nat_lit 1), q132), ((nat_lit 4), (nat_lit 1), q131), ((nat_lit 5), (nat_lit 1), q18), ((nat_lit 6), (nat_lit 1), q133), ((nat_lit 7), (nat_lit 1), q132), ((nat_lit 8), (nat_lit 1), q132), ((nat_lit 9), (nat_lit 1), q132), ((nat_lit 10), (nat_lit 1), q132), ((nat_lit 11), (nat_lit 1), q132), ((nat_lit 12), (nat_lit 1), q134), ((nat_lit 13), (nat_lit 1), q135), ((nat_lit 14), (nat_lit 1), q18), ((nat_lit 15), (nat_lit 1), q25)])) p4 
(oSet (xTurn (tnAlloc q129)) p3 
(oDo (xTurn (tnStore (nat_lit 16) g3 g4)) 
oEnd))) (kSeq (kSeq (oSet (xMove g0) p5 
(oSet (xLook (lkBin .lss g5 q10)) p6 
(oSet (xMove g6) p7 
(oSetIf (wantF g7) (xMove g0) p8 
(oSetIf (wantF g7) (xLook (lkBin .geq g8 q65)) p9 
(oSet (xLook (lkPick g7 q2 g9)) p10 
oEnd)))))) (kCond g10 (kSeq (oSet (xMove q25) p2 
oEnd) kRet) kSkip)) (kSeq (oSet (xMove g0) p11 
(oSet (xLook (lkIxArr (nat_lit 16) (nat_lit 1) g3 g11)) p12 
(oSet (xLook (lkLoad1 g12)) p13 
(oSet (xMove g13) p2 
oEnd)))) kRet))))⟩
def q136 : OpdF := kC (.int .i32 (.ofNat (nat_lit 98)))
noncomputable def k54 : KFun := ⟨[rTmp (nat_lit 4) g4], (kSeq (oSet (xMove q5) p4 
oEnd) (kSeq (kSeq (oSet (xMove g1) p5 
oEnd) (kBlock (nat_lit 0) (kSeq (oSet (xLook (lkEq false .int g5 q101)) p7 
(oSet (xMove g7) p6 
oEnd)) (kCond g6 (kSeq (oSet (xMove g0) p8 
(oSet (xNil g8) p9 
(oSet (xLook (lkFieldAddr (nat_lit 1) g9)) p10 
(oSet (xMove g10) p4 
oEnd)))) kRet) (kSeq (oSet (xLook (lkEq false .int g5 q136)) p12 
(oSet (xMove g12) p11 
oEnd)) (kCond g11 (kSeq (oSet (xMove g0) p13 
(oSet (xNil g13) p14 
(oSet (xLook (lkFieldAddr (nat_lit 2) g14)) p15 
(oSet (xMove g15) p4 
oEnd)))) kRet) (kSeq (oSet (xLook (lkEq false .int g5 q104)) p17 
(oSet (xMove g17) p16 
oEnd)) (kCond g16 (kSeq (oSet (xMove g0) p18 
(oSet (xNil g18) p19 
(oSet (xLook (lkFieldAddr (nat_lit 3) g19)) p20 
(oSet (xMove g20) p4 
oEnd)))) kRet) kSkip)))))))) (kSeq (oSet (xMove g0) p21 
(oSet (xNil g21) p22 
(oSet (xLook (lkFieldAddr (nat_lit 4) g22)) p23 
(oSet (xMove g23) p4 
oEnd)))) kRet)))⟩
def q137 : List Value := [(.string ⟨⟨[]⟩⟩), (.string ⟨⟨[]⟩⟩), (.string ⟨⟨[]⟩⟩), (.string ⟨⟨[]⟩⟩), (.string ⟨⟨[]⟩⟩), (.string ⟨⟨[]⟩⟩), (.string ⟨⟨[]⟩⟩), (.string ⟨⟨[]⟩⟩), (.string ⟨⟨[]⟩⟩), (.string ⟨⟨[]⟩⟩), (.string ⟨⟨[]⟩⟩), (.string ⟨⟨[]⟩⟩), (.string ⟨⟨[]⟩⟩), (.string ⟨⟨[]⟩⟩), (.string ⟨⟨[]⟩⟩), (.string ⟨⟨[]⟩⟩), (.string ⟨⟨[]⟩⟩), (.string ⟨⟨[]⟩⟩), (.string ⟨⟨[]⟩⟩)]
def q138 : OpdF := kC (.string ⟨⟨[110, 99]⟩⟩)
def q139 : OpdF := kC (.string ⟨⟨[110, 97, 99]⟩⟩)
def q140 : OpdF := kC (.string ⟨⟨[110, 97]⟩⟩)
def q141 : OpdF := kC (.string ⟨⟨[110, 97, 111]⟩⟩)
def q142 : OpdF := kC (.string ⟨⟨[110, 111]⟩⟩)
def q143 : OpdF := kC (.string ⟨⟨[110, 97, 107]⟩⟩)
def q144 : OpdF := kC (.string ⟨⟨[110, 97, 107, 101, 109]⟩⟩)
def q145 : OpdF := kC (.string ⟨⟨[110, 97, 111, 109]⟩⟩)
def q146 : OpdF := kC (.string ⟨⟨[110, 107, 120]⟩⟩)
def q147 : OpdF := kC (.string ⟨⟨[99]⟩⟩)
def q148 : OpdF := kC (.string ⟨⟨[99, 112]⟩⟩)
def q149 : OpdF := kC (.int .i64 (.ofNat (nat_lit 19)))
noncomputable def k55 : KFun := ⟨[rTmp (nat_lit 2) g2], (kSeq (oSet (xMove q25) p2 
oEnd) (kSeq (oSet (xLook (lkBuild q137 [((nat_lit 1), (nat_lit 1), q135), ((nat_lit 2), (nat_lit 1), q138), ((nat_lit 3), (nat_lit 1), q139), ((nat_lit 4), (nat_lit 1), q140), ((nat_lit 5), (nat_lit 1), q141), ((nat_lit 6), (nat_lit 1), q135), ((nat_lit 7), (nat_lit 1), q142), ((nat_lit 8), (nat_lit 1), q25), ((nat_lit 9), (nat_lit 1), q143), ((nat_lit 10), (nat_lit 1), q144), ((nat_lit 11), (nat_lit 1), q145), ((nat_lit 12), (nat_lit 1), q142), ((nat_lit 13), (nat_lit 1), q146), ((nat_lit 14), (nat_lit 1), q25), ((nat_lit 15), (nat_lit 1), q147), ((nat_lit 16), (nat_lit 1), q148), ((nat_lit 17), (nat_lit 1), q140), ((nat_lit 18), (nat_lit 1), q140)])) p4 
(oSet (xTurn (tnAlloc q137)) p3 
(oDo (xTurn (tnStore (nat_lit 19) g3 g4)) 
oEnd))) (kSeq (kSeq (oSet (xMove g0) p5 
(oSet (xLook (lkBin .lss g5 q10)) p6 
(oSet (xMove g6) p7 
(oSetIf (wantF g7) (xMove g0) p8 
(oSetIf (wantF g7) (xLook (lkBin .geq g8 q149)) p9 
(oSet (xLook (lkPick g7 q2 g9)) p10 
oEnd)))))) (kCond g10 (kSeq (oSet (xMove q25) p2 
oEnd) kRet) kSkip)) (kSeq (oSet (xMove g0) p11 
(oSet (xLook (lkIxArr (nat_lit 19) (nat_lit 1) g3 g11)) p12 
(oSet (xLook (lkLoad1 g12)) p13 
(oSet (xMove g13) p2 
oEnd)))) kRet))))⟩
def q150 : OpdF := kC (.func (.func (nat_lit 88)) ⟨[]⟩ ⟨[]⟩)
noncomputable def k56 : KFun := ⟨[], (kSeq (oSet (xMove g1) p9 
(oSet (xNil g9) p10 
(oSet (xLook (lkFieldAddr (nat_lit 0) g10)) p11 
(oSet (xLook (lkLoad1 g11)) p12 
(oSet (xCall q150 [g12]) p13 
(oSet (xMove g13) p8 
(oSet (xLook (lkExtract (nat_lit 0) g8)) p14 
(oSet (xLook (lkExtract (nat_lit 1) g8)) p15 
(oSet (xMove g14) p4 
(oSet (xMove g15) p5 
oEnd)))))))))) (kSeq (kDraw 
(dLook (nat_lit 0) [] [] (lkMove g0) p16 
(dLook (nat_lit 1) [] [] (lkMove g1) p17 
(dTurn (nat_lit 2) [] [] false (xNil g17) p18 
(dLook (nat_lit 3) [] [] (lkFieldAddr (nat_lit 7) g18) p19 
(dLook (nat_lit 4) [] [] (lkLoad1 g19) p20 
(dLook (nat_lit 5) [] [] (lkLen .sl g20) p21 
(dLook (nat_lit 6) [] [] (lkMove g4) p22 
(dLook (nat_lit 7) [] [] (lkMkFunc (.method "retcon/order.many") [g16] []) p23 
(dTurn (nat_lit 8) [] [] false (xNil g23) p24 
(dLook (nat_lit 9) [] [] (lkMove g16) p25 
(dTurn (nat_lit 10) [] [] true (xInvoke g25 "retcon/order.many" [g21, g22]) p26 
(dLook (nat_lit 11) [] [(nat_lit 10)] (lkMove g26) p6 (dEnd [(nat_lit 16), (nat_lit 17), (nat_lit 18), (nat_lit 19), (nat_lit 20), (nat_lit 21), (nat_lit 22), (nat_lit 23), (nat_lit 24), (nat_lit 25), (nat_lit 26), (nat_lit 6)])))))))))))))) (kSeq (oSet (xMove g6) p27 
(oSet (xMove q6) p28 
oEnd)) (kBlock (nat_lit 0) (kLoop (kSeq (oSet (xLook (lkBin .lss g28 g27)) p29 
oEnd) (kSeq (kCond g29 kSkip (kExit (nat_lit 0))) (kSeq (kBlock (nat_lit 1) (kSeq (oSet (xMove g28) p30 
(oSet (xMove g30) p7 
oEnd)) (kSeq (kSeq (oSet (xMove g7) p31 
(oSet (xMove g1) p32 
(oSet (xNil g32) p33 
(oSet (xLook (lkFieldAddr (nat_lit 7) g33)) p34 
(oSet (xLook (lkLoad1 g34)) p35 
(oSet (xLook (lkLen .sl g35)) p36 
(oSet (xLook (lkEq false .int g31 g36)) p37 
oEnd))))))) (kCond g37 (oSet (xMove g1) p38 
(oSet (xMove g1) p39 
(oSet (xNil g39) p40 
(oSet (xLook (lkFieldAddr (nat_lit 7) g40)) p41 
(oSet (xLook (lkLoad1 g41)) p42 
(oSet (xTurn (tnBuildSlice q19 [((nat_lit 0), (nat_lit 1), q25)] (nat_lit 1))) p43 
(oSet (xTurn (tnAppend (nat_lit 1) g42 g43)) p44 
(oSet (xNil g38) p45 
(oSet (xLook (lkFieldAddr (nat_lit 7) g45)) p46 
(oDo (xTurn (tnStore (nat_lit 1) g46 g44)) 
oEnd)))))))))) kSkip)) (kDraw 
(dLook (nat_lit 0) [] [] (lkMove g0) p47 
(dLook (nat_lit 1) [] [] (lkMove g1) p48 
(dTurn (nat_lit 2) [] [] false (xNil g48) p49 
(dLook (nat_lit 3) [] [] (lkFieldAddr (nat_lit 7) g49) p50 
(dLook (nat_lit 4) [] [] (lkLoad1 g50) p51 
(dLook (nat_lit 5) [] [] (lkMove g7) p52 
(dLook (nat_lit 6) [] [] (lkIxSl (nat_lit 1) g51 g52) p53 
(dLook (nat_lit 7) [] [] (lkMove g5) p54 
(dLook (nat_lit 8) [] [] (lkMkFunc (.method "retcon/order.text") [g47] []) p55 
(dTurn (nat_lit 9) [] [] false (xNil g55) p56 
(dLook (nat_lit 10) [] [] (lkMove g47) p57 
(dTurn (nat_lit 11) [] [] true (xInvoke g57 "retcon/order.text" [g53, g54]) p58 (dEnd [(nat_lit 47), (nat_lit 48), (nat_lit 49), (nat_lit 50), (nat_lit 51), (nat_lit 52), (nat_lit 53), (nat_lit 54), (nat_lit 55), (nat_lit 56), (nat_lit 57), (nat_lit 58)]))))))))))))))))) (oSet (xLook (lkBin .add g28 q10)) p59 
(oSet (xMove g59) p28 
oEnd))))))))))⟩
noncomputable def k58 : KFun := ⟨[rTmp (nat_lit 3) g3], (kSeq (oSet (xMove q0) p3 
oEnd) (kSeq (kSeq (oSet (xLook (lkLoad1 g1)) p6 
(oSet (xCall q95 [g6]) p7 
(oSet (xTurn (tnRangeStr g7)) p8 
oEnd))) (kBlock (nat_lit 0) (kLoop (kSeq (oSet (xTurn (tnNextStr g8)) p9 
(oSet (xLook (lkExtract (nat_lit 0) g9)) p10 
oEnd)) (kSeq (kCond g10 kSkip (kExit (nat_lit 0))) (kBlock (nat_lit 1) (kSeq (oSet (xLook (lkExtract (nat_lit 2) g9)) p11 
(oSet (xMove g11) p5 
oEnd)) (kSeq (oSet (xMove g5) p12 
(oSet (xMove g0) p13 
(oSet (xLook (lkEq false .int g12 g13)) p14 
oEnd))) (kCond g14 (kSeq (oSet (xMove q2) p3 
oEnd) kRet) kSkip))))))))) (kSeq (oSet (xMove q0) p3 
oEnd) kRet)))⟩
def q151 : List Value := [(.bool false)]
noncomputable def k59 : KFun := ⟨[rCell1 (nat_lit 4) g4], (kSeq (oSet (xTurn (tnBox g0)) p2 
(oSet (xTurn (tnAlloc q151)) p4 
oEnd)) (kSeq (kSeq (oSet (xLook (lkLoad1 g2)) p6 
(oSet (xLook (lkEq false .ptr g6 q5)) p7 
(oSet (xMove g7) p8 
(oSetIf (wantF g8) (xLook (lkLoad1 g2)) p9 
(oSetIf (wantF g8) (xNil g9) p10 
(oSetIf (wantF g8) (xLook (lkFieldAddr (nat_lit 0) g10)) p11 
(oSetIf (wantF g8) (xCall q128 [g11]) p12 
(oSet (xLook (lkPick g8 q2 g12)) p13 
(oSet (xMove g13) p14 
(oSetIf (wantF g14) (xLook (lkLoad1 g2)) p15 
(oSetIf (wantF g14) (xNil g15) p16 
(oSetIf (wantF g14) (xLook (lkFieldAddr (nat_lit 0) g16)) p17 
(oSetIf (wantF g14) (xLook (lkFieldAddr (nat_lit 2) g17)) p18 
(oSetIf (wantF g14) (xLook (lkFieldAddr (nat_lit 0) g18)) p19 
(oSetIf (wantF g14) (xLook (lkLoad1 g19)) p20 
(oSetIf (wantF g14) (xLook (lkEq true .int g20 q6)) p21 
(oSet (xLook (lkPick g14 q2 g21)) p22 
oEnd))))))))))))))))) (kCond g22 (kSeq (oDo (xTurn (tnStore (nat_lit 1) g4 q0)) 
oEnd) kRet) kSkip)) (kSeq (oSet (xLook (lkLoad1 g2)) p23 
(oSet (xNil g23) p24 
(oSet (xLook (lkFieldAddr (nat_lit 4) g24)) p25 
(oSet (xLook (lkLoad1 g25)) p26 
(oSet (xTurn (tnAlloc q36)) p5 
(oDo (xTurn (tnStore (nat_lit 1) g5 g26)) 
oEnd)))))) (kSeq (oSet (xLook (lkMkFunc (.func (nat_lit 89)) [] [g4, g5, g2])) p27 
(oDo (xDefer g27 []) 
oEnd)) (kSeq (oSet (xMove g1) p28 
(oSet (xCall g28 []) p29 
oEnd)) kRet)))))⟩
def q152 : OpdF := kC (.func (.func (nat_lit 61)) ⟨[]⟩ ⟨[]⟩)
noncomputable def k60 : KFun := ⟨[], (oSet (xLook (lkLoad1 g0)) p4 
(oSet (xLook (lkLoad1 g1)) p5 
(oSet (xLook (lkLoad1 g2)) p6 
(oSet (xCall q152 [g4, g5, g6, q81]) p7 
(oDo (xTurn (tnStore (nat_lit 1) g3 g7)) 
oEnd)))))⟩
def q153 : OpdF := kC (.func (.func (nat_lit 64)) ⟨[]⟩ ⟨[]⟩)
def q154 : OpdF := kC (.int .u8 (.ofNat (nat_lit 127)))
def q155 : OpdF := kC (.int .u8 (.ofNat (nat_lit 128)))
def q156 : OpdF := kC (.int .u8 (.ofNat (nat_lit 0)))
noncomputable def k61 : KFun := ⟨[rTmp (nat_lit 8) g8], (kSeq (oSet (xMove q6) p8 
oEnd) (kSeq (oSet (xMove g0) p14 
(oSet (xNil g14) p15 
(oSet (xLook (lkFieldAddr (nat_lit 4) g15)) p16 
(oSet (xLook (lkLoad1 g16)) p17 
(oSet (xTurn (tnAlloc q36)) p9 
(oDo (xTurn (tnStore (nat_lit 1) g9 g17)) 
(oSet (xMove q6) p10 
(oSet (xMove q6) p11 
oEnd)))))))) (kSeq (oSet (xLook (lkMkFunc (.func (nat_lit 90)) [] [g9])) p18 
(oSet (xMove g18) p12 
oEnd)) (kSeq (kBlock (nat_lit 0) (kLoop (kBlock (nat_lit 1) (kSeq (oSet (xMove g0) p19 
(oSet (xCall q153 [g19, q10]) p20 
(oSet (xLook (lkIxSl (nat_lit 1) g20 q6)) p21 
(oSet (xLook (lkLoad1 g21)) p22 
(oSet (xMove g22) p13 
oEnd))))) (kSeq (oSet (xMove g10) p23 
(oSet (xMove g13) p24 
(oSet (xLook (lkBin .and g24 q154)) p25 
(oSet (xLook (lkIntTo .i64 g25)) p26 
(oSet (xMove g11) p27 
(oSet (xLook (lkBin .mul q119 g27)) p28 
(oSet (xLook (lkBin .shl g26 g28)) p29 
(oSet (xLook (lkBin .or g23 g29)) p30 
(oSet (xMove g30) p10 
oEnd))))))))) (kSeq (oSet (xMove g11) p31 
(oSet (xLook (lkBin .add g31 q10)) p32 
(oSet (xMove g32) p11 
oEnd))) (kSeq (kSeq (oSet (xMove g13) p33 
(oSet (xLook (lkBin .lss g33 q155)) p34 
oEnd)) (kCond g34 (kSeq (kSeq (oSet (xMove g13) p35 
(oSet (xLook (lkEq false .int g35 q156)) p36 
(oSet (xMove g36) p37 
(oSetIf (wantT g37) (xMove g11) p38 
(oSetIf (wantT g37) (xLook (lkBin .gtr g38 q10)) p39 
(oSet (xLook (lkPick g37 g39 q0)) p40 
oEnd)))))) (kCond g40 (oSet (xMove g12) p41 
(oSet (xCall g41 [q27]) p42 
oEnd)) kSkip)) (kExit (nat_lit 0))) kSkip)) (kSeq (oSet (xMove g11) p43 
(oSet (xLook (lkEq false .int g43 q37)) p44 
oEnd)) (kCond g44 (oSet (xMove g12) p45 
(oSet (xCall g45 [q81]) p46 
oEnd)) kSkip))))))))) (kSeq (kBlock (nat_lit 2) (kSeq (oSet (xMove g10) p48 
(oSet (xMove g1) p49 
(oSet (xLook (lkBin .lss g48 g49)) p50 
(oSet (xMove g50) p47 
oEnd)))) (kCond g47 (oSet (xMove g12) p51 
(oSet (xCall g51 [q81]) p52 
oEnd)) (kSeq (oSet (xMove g10) p54 
(oSet (xMove g2) p55 
(oSet (xLook (lkBin .gtr g54 g55)) p56 
(oSet (xMove g56) p53 
oEnd)))) (kCond g53 (oSet (xMove g12) p57 
(oSet (xMove g3) p58 
(oSet (xCall g57 [g58]) p59 
oEnd))) kSkip))))) (kSeq (oSet (xMove g10) p60 
(oSet (xMove g60) p8 
oEnd)) kRet))))))⟩
noncomputable def k62 : KFun := ⟨[], (oSet (xLook (lkLoad1 g0)) p3 
(oSet (xLook (lkLoad1 g1)) p4 
(oSet (xCall q152 [g3, q6, g4, q66]) p5 
(oDo (xTurn (tnStore (nat_lit 1) g2 g5)) 
oEnd))))⟩
noncomputable def k63 : KFun := ⟨[], (kDraw 
(dLook (nat_lit 0) [] [] (lkLoad1 g0) p3 
(dLook (nat_lit 1) [] [] (lkLoad1 g0) p4 
(dLook (nat_lit 2) [] [] (lkLoad1 g1) p5 
(dTurn (nat_lit 3) [(nat_lit 0)] [] true (xCall q152 [g4, q6, g5, q66]) p6 
(dTurn (nat_lit 4) [] [(nat_lit 3)] true (xCall q153 [g3, g6]) p7 
(dLook (nat_lit 5) [] [(nat_lit 3), (nat_lit 4)] (lkBytesTo g7) p8 
(dTurn (nat_lit 6) [] [(nat_lit 3), (nat_lit 4)] true (xTurn (tnStore (nat_lit 1) g2 g8)) noDst (dEnd [(nat_lit 3), (nat_lit 4), (nat_lit 5), (nat_lit 6), (nat_lit 7), (nat_lit 8)])))))))))⟩
noncomputable def k64 : KFun := ⟨[rTmp (nat_lit 4) g4], (kSeq (oSet (xMove q16) p4 
oEnd) (kSeq (kSeq (kDraw 
(dLook (nat_lit 0) [] [] (lkMove g1) p5 
(dLook (nat_lit 1) [] [] (lkMove g0) p6 
(dTurn (nat_lit 2) [] [] false (xNil g6) p7 
(dLook (nat_lit 3) [] [] (lkFieldAddr (nat_lit 0) g7) p8 
(dLook (nat_lit 4) [] [] (lkFieldAddr (nat_lit 1) g8) p9 
(dLook (nat_lit 5) [] [] (lkLoad1 g9) p10 
(dLook (nat_lit 6) [] [] (lkLen .sl g10) p11 
(dLook (nat_lit 7) [] [] (lkMove g0) p12 
(dTurn (nat_lit 8) [] [] false (xNil g12) p13 
(dLook (nat_lit 9) [] [] (lkFieldAddr (nat_lit 4) g13) p14 
(dLook (nat_lit 10) [] [] (lkLoad1 g14) p15 
(dLook (nat_lit 11) [] [] (lkBin .sub g11 g15) p16 
(dLook (nat_lit 12) [] [] (lkBin .gtr g5 g16) p17 (dEnd [(nat_lit 5), (nat_lit 6), (nat_lit 7), (nat_lit 8), (nat_lit 9), (nat_lit 10), (nat_lit 11), (nat_lit 12), (nat_lit 13), (nat_lit 14), (nat_lit 15), (nat_lit 16), (nat_lit 17)]))))))))))))))) (kCond g17 (oSet (xMove g0) p18 
(oSet (xNil g18) p19 
(oSet (xLook (lkFieldAddr (nat_lit 0) g19)) p20 
(oSet (xLook (lkFieldAddr (nat_lit 1) g20)) p21 
(oSet (xLook (lkLoad1 g21)) p22 
(oSet (xLook (lkLen .sl g22)) p23 
(oSet (xLook (lkBuild q32 [((nat_lit 0), (nat_lit 1), q27), ((nat_lit 1), (nat_lit 1), g23)])) p24 
(oSet (xLook (lkBuild q32 [((nat_lit 0), (nat_lit 2), g24)])) p25 
(oSet (xLook (lkMkIface (nat_lit 143) g25)) p26 
(oDo (xPanic g26) 
oEnd)))))))))) kSkip)) (kSeq (oSet (xMove g0) p27 
(oSet (xNil g27) p28 
(oSet (xLook (lkFieldAddr (nat_lit 4) g28)) p29 
(oSet (xLook (lkLoad1 g29)) p30 
(oSet (xMove g1) p31 
(oSet (xLook (lkBin .add g30 g31)) p32 
(oSet (xNil g27) p33 
(oSet (xLook (lkFieldAddr (nat_lit 4) g33)) p34 
(oDo (xTurn (tnStore (nat_lit 1) g34 g32)) 
oEnd))))))))) (kSeq (kDraw 
(dLook (nat_lit 0) [] [] (lkMove g0) p35 
(dTurn (nat_lit 1) [] [] false (xNil g35) p36 
(dLook (nat_lit 2) [] [] (lkFieldAddr (nat_lit 0) g36) p37 
(dLook (nat_lit 3) [] [] (lkFieldAddr (nat_lit 1) g37) p38 
(dLook (nat_lit 4) [] [] (lkLoad1 g38) p39 
(dLook (nat_lit 5) [] [] (lkMove g0) p40 
(dTurn (nat_lit 6) [] [] false (xNil g40) p41 
(dLook (nat_lit 7) [] [] (lkFieldAddr (nat_lit 4) g41) p42 
(dLook (nat_lit 8) [] [] (lkLoad1 g42) p43 
(dLook (nat_lit 9) [] [] (lkMove g1) p44 
(dLook (nat_lit 10) [] [] (lkBin .sub g43 g44) p45 
(dLook (nat_lit 11) [] [] (lkMove g0) p46 
(dTurn (nat_lit 12) [] [] false (xNil g46) p47 
(dLook (nat_lit 13) [] [] (lkFieldAddr (nat_lit 4) g47) p48 
(dLook (nat_lit 14) [] [] (lkLoad1 g48) p49 
(dLook (nat_lit 15) [] [] (lkSliceSl (nat_lit 1) g39 (some g45) (some g49) none) p50 
(dLook (nat_lit 16) [] [] (lkMove g50) p4 (dEnd [(nat_lit 35), (nat_lit 36), (nat_lit 37), (nat_lit 38), (nat_lit 39), (nat_lit 40), (nat_lit 41), (nat_lit 42), (nat_lit 43), (nat_lit 44), (nat_lit 45), (nat_lit 46), (nat_lit 47), (nat_lit 48), (nat_lit 49), (nat_lit 50), (nat_lit 4)]))))))))))))))))))) kRet))))⟩
noncomputable def k65 : KFun := ⟨[rCellN (nat_lit 2) g2 (nat_lit 2)], (kSeq (oSet (xTurn (tnAlloc q32)) p2 
oEnd) (kSeq (kSeq (oSet (xMove g0) p3 
(oSet (xLook (lkEq false .ptr g3 q5)) p4 
(oSet (xMove g4) p5 
(oSetIf (wantF g5) (xMove g0) p6 
(oSetIf (wantF g5) (xNil g6) p7 
(oSetIf (wantF g5) (xLook (lkFieldAddr (nat_lit 0) g7)) p8 
(oSetIf (wantF g5) (xCall q128 [g8]) p9 
(oSet (xLook (lkPick g5 q2 g9)) p10 
oEnd)))))))) (kCond g10 (kSeq (oSet (xLook (lkBuild q32 [((nat_lit 0), (nat_lit 1), q10)])) p11 
(oDo (xTurn (tnStore (nat_lit 2) g2 g11)) 
oEnd)) kRet) kSkip)) (kSeq (oSet (xMove g0) p12 
(oSet (xNil g12) p13 
(oSet (xLook (lkFieldAddr (nat_lit 0) g13)) p14 
(oSet (xLook (lkFieldAddr (nat_lit 2) g14)) p15 
(oSet (xLook (lkLoadN (nat_lit 2) g15)) p16 
(oDo (xTurn (tnStore (nat_lit 2) g2 g16)) 
oEnd)))))) kRet)))⟩
noncomputable def k66 : KFun := ⟨[rTmp (nat_lit 2) g2], (kSeq (oSet (xMove q6) p2 
oEnd) (kSeq (kSeq (oSet (xMove g0) p3 
(oSet (xLook (lkEq false .ptr g3 q5)) p4 
(oSet (xMove g4) p5 
(oSetIf (wantF g5) (xMove g0) p6 
(oSetIf (wantF g5) (xNil g6) p7 
(oSetIf (wantF g5) (xLook (lkFieldAddr (nat_lit 0) g7)) p8 
(oSetIf (wantF g5) (xCall q128 [g8]) p9 
(oSet (xLook (lkPick g5 q2 g9)) p10 
oEnd)))))))) (kCond g10 (kSeq (oSet (xMove q6) p2 
oEnd) kRet) kSkip)) (kSeq (kDraw 
(dLook (nat_lit 0) [] [] (lkMove g0) p11 
(dTurn (nat_lit 1) [] [] false (xNil g11) p12 
(dLook (nat_lit 2) [] [] (lkFieldAddr (nat_lit 0) g12) p13 
(dLook (nat_lit 3) [] [] (lkFieldAddr (nat_lit 1) g13) p14 
(dLook (nat_lit 4) [] [] (lkLoad1 g14) p15 
(dLook (nat_lit 5) [] [] (lkLen .sl g15) p16 
(dLook (nat_lit 6) [] [] (lkMove g0) p17 
(dTurn (nat_lit 7) [] [] false (xNil g17) p18 
(dLook (nat_lit 8) [] [] (lkFieldAddr (nat_lit 4) g18) p19 
(dLook (nat_lit 9) [] [] (lkLoad1 g19) p20 
(dLook (nat_lit 10) [] [] (lkBin .sub g16 g20) p21 
(dLook (nat_lit 11) [] [] (lkMove g21) p2 (dEnd [(nat_lit 11), (nat_lit 12), (nat_lit 13), (nat_lit 14), (nat_lit 15), (nat_lit 16), (nat_lit 17), (nat_lit 18), (nat_lit 19), (nat_lit 20), (nat_lit 21), (nat_lit 2)])))))))))))))) kRet)))⟩
def q157 : OpdF := kC (.func (.func (nat_lit 91)) ⟨[]⟩ ⟨[]⟩)
def q158 : OpdF := kC (.func (.func (nat_lit 92)) ⟨[]⟩ ⟨[]⟩)
def q159 : OpdF := kC (.func (.func (nat_lit 93)) ⟨[]⟩ ⟨[]⟩)
def q160 : List Value := [(.bool false), (.bool false), (.bool false), (.bool false), (.bool false), (.bool false), (.bool false), (.bool false), (.bool false), (.bool false), (.bool false), (.bool false), (.bool false), (.bool false), (.bool false), (.bool false), (.bool false), (.bool false), (.bool false), (.bool false), (.bool false), (.bool false), (.bool false), (.bool false), (.bool false), (.bool false), (.bool false), (.bool false), (.bool false), (.bool false), (.bool false), (.bool false), (.bool false), (.bool false), (.bool false), (.bool false), (.bool false), (.bool false), (.bool false), (.bool false), (.bool false), (.bool false), (.bool false), (.bool false), (.bool false), (.bool false), (.bool false), (.bool false), (.bool false), (.bool false), (.bool false), (.bool false), (.bool false), (.bool false), (.bool false), (.bool false), (.bool false), (.bool false), (.bool false), (.bool false), (.bool false), (.bool false), (.bool false), (.bool false), (.bool false), (.bool false), (.bool false), (.bool false), (.bool false), (.bool false), (.bool false), (.bool false), (.bool false), (.bool false), (.bool false), (.bool false), (.bool false), (.bool false), (.bool false), (.bool false), (.bool false), (.bool false), (.bool false), (.bool false), (.bool false), (.bool false), (.bool false), (.bool false), (.bool false), (.bool false), (.bool false), (.bool false), (.bool false), (.bool false), (.bool false), (.bool false), (.bool false), (.bool false), (.bool false), (.bool false), (.bool false), (.bool false), (.bool false), (.bool false), (.bool false), (.bool false), (.bool false), (.bool false), (.bool false), (.bool false), (.bool false), (.bool false), (.bool false), (.bool false), (.bool false), (.bool false), (.bool false), (.bool false), (.bool false), (.bool false), (.bool false), (.bool false), (.bool false), (.bool false), (.bool false), (.bool false), (.bool false), (.bool false), (.bool false), (.bool false), (.bool false), (.bool false), (.bool false), (.bool false), (.bool false), (.bool false), (.bool false), (.bool false), (.bool false), (.bool false), (.bool false), (.bool false), (.bool false), (.bool false), (.bool false), (.bool false), (.bool false), (.bool false), (.bool false), (.bool false), (.bool false), (.bool false), (.bool false), (.bool false), (.bool false), (.bool false), (.bool false), (.bool false), (.bool false), (.bool false), (.bool false), (.bool false), (.bool false), (.bool false), (.bool false), (.bool false), (.bool false), (.bool false), (.bool false), (.bool false), (.bool false), (.bool false), (.bool false), (.bool false), (.bool false), (.bool false), (.bool false), (.bool false), (.bool false), (.bool false), (.bool false), (.bool false), (.bool false), (.bool false), (.bool false), (.bool false), (.bool false), (.bool false), (.bool false), (.bool false), (.bool false), (.bool false), (.bool false), (.bool false), (.bool false), (.bool false), (.bool false), (.bool false), (.bool false), (.bool false), (.bool false), (.bool false), (.bool false), (.bool false), (.bool false), (.bool false), (.bool false), (.bool false), (.bool false), (.bool false), (.bool false), (.bool false), (.bool false), (.bool false), (.bool false), (.bool false), (.bool false), (.bool false), (.bool false), (.bool false), (.bool false), (.bool false), (.bool false), (.bool false), (.bool false), (.bool false), (.bool false), (.bool false), (.bool false), (.bool false), (.bool false), (.bool false), (.bool false), (.bool false), (.bool false), (.bool false), (.bool false), (.bool false), (.bool false), (.bool false), (.bool false), (.bool false), (.bool false), (.bool false), (.bool false), (.bool false), (.bool false), (.bool false), (.bool false), (.bool false), (.bool false), (.bool false), (.bool false), (.bool false), (.bool false), (.bool false)]
def q161 : OpdF := kC (.func (.func (nat_lit 95)) ⟨[]⟩ ⟨[]⟩)
def q162 : OpdF := kC (.func (.func (nat_lit 94)) ⟨[]⟩ ⟨[]⟩)
def q163 : OpdF := kC (.func (.func (nat_lit 97)) ⟨[]⟩ ⟨[]⟩)
def q164 : OpdF := kC (.func (.func (nat_lit 96)) ⟨[]⟩ ⟨[]⟩)
noncomputable def k67 : KFun := ⟨[rTmp (nat_lit 4) g4], (kSeq (oSet (xMove q25) p4 
oEnd) (kSeq (kSeq (oSet (xMove g0) p7 
(oSet (xLook (lkEq false .str g7 q25)) p8 
(oSet (xMove g8) p9 
(oSetIf (wantF g9) (xMove g1) p10 
(oSetIf (wantF g9) (xLook (lkEq false .str g10 q25)) p11 
(oSet (xLook (lkPick g9 q2 g11)) p12 
oEnd)))))) (kCond g12 (kSeq (oSet (xMove g0) p13 
(oSet (xMove g13) p4 
oEnd)) kRet) kSkip)) (kSeq (kSeq (oSet (xMove g1) p14 
(oSet (xLook (lkLen .str g14)) p15 
(oSet (xLook (lkEq false .int g15 q10)) p16 
(oSet (xMove g16) p17 
(oSetIf (wantT g17) (xMove g1) p18 
(oSetIf (wantT g17) (xLook (lkIxStr g18 q6)) p19 
(oSetIf (wantT g17) (xLook (lkBin .lss g19 q155)) p20 
(oSet (xLook (lkPick g17 g20 q0)) p21 
oEnd)))))))) (kCond g21 (kSeq (kDraw 
(dLook (nat_lit 0) [] [] (lkMove g0) p22 
(dLook (nat_lit 1) [] [] (lkMove g1) p23 
(dLook (nat_lit 2) [] [] (lkIxStr g23 q6) p24 
(dTurn (nat_lit 3) [] [] true (xCall q158 [g22, g24]) p25 
(dLook (nat_lit 4) [] [] (lkMove g1) p26 
(dLook (nat_lit 5) [] [] (lkIxStr g26 q6) p27 
(dTurn (nat_lit 6) [] [(nat_lit 3)] true (xCall q157 [g25, g27]) p28 
(dLook (nat_lit 7) [] [(nat_lit 3), (nat_lit 6)] (lkMove g28) p4 (dEnd [(nat_lit 22), (nat_lit 23), (nat_lit 24), (nat_lit 25), (nat_lit 26), (nat_lit 27), (nat_lit 28), (nat_lit 4)])))))))))) kRet) kSkip)) (kSeq (kSeq (oSet (xMove g1) p30 
(oSet (xCall q159 [g30]) p31 
(oSet (xMove g31) p29 
(oSet (xLook (lkExtract (nat_lit 0) g29)) p32 
(oSet (xLook (lkExtract (nat_lit 1) g29)) p33 
(oSet (xTurn (tnAlloc q160)) p5 
(oDo (xTurn (tnStore (nat_lit 256) g5 g32)) 
(oSet (xMove g33) p6 
oEnd)))))))) (kSeq (oSet (xMove g6) p34 
oEnd) (kCond g34 (kSeq (oSet (xMove g0) p35 
(oSet (xCall q161 [g35, g5]) p36 
(oSet (xCall q162 [g36, g5]) p37 
(oSet (xMove g37) p4 
oEnd)))) kRet) kSkip))) (kSeq (oSet (xMove g0) p38 
(oSet (xMove g1) p39 
(oSet (xCall q163 [g38, g39]) p40 
(oSet (xMove g1) p41 
(oSet (xCall q164 [g40, g41]) p42 
(oSet (xMove g42) p4 
oEnd)))))) kRet)))))⟩
def q165 : OpdF := kC (.func (.func (nat_lit 98)) ⟨[]⟩ ⟨[]⟩)
def q166 : OpdF := kC (.func (.func (nat_lit 99)) ⟨[]⟩ ⟨[]⟩)
noncomputable def k68 : KFun := ⟨[rCellN (nat_lit 4) g4 (nat_lit 5)], (kSeq (oSet (xTurn (tnBox g1)) p3 
(oSet (xTurn (tnAlloc q22)) p4 
oEnd)) (kSeq (oSet (xLook (lkFieldAddr (nat_lit 1) g3)) p5 
(oSet (xLook (lkLoad1 g5)) p6 
(oSet (xCall q68 [g6]) p7 
(oSet (xLook (lkUn .not g7)) p8 
(oSet (xCall q76 [g8, q20]) p9 
oEnd))))) (kSeq (oSet (xMove g0) p10 
(oSet (xLook (lkFieldAddr (nat_lit 1) g3)) p11 
(oSet (xLook (lkLoad1 g11)) p12 
(oSet (xCall q165 [g10, g12]) p13 
(oSet (xCall q76 [g13, q119]) p14 
oEnd))))) (kSeq (oSet (xMove g0) p15 
(oSet (xLook (lkFieldAddr (nat_lit 1) g3)) p16 
(oSet (xLook (lkLoad1 g16)) p17 
(oSet (xCall q166 [g15, g17, q16]) p18 
oEnd)))) (kSeq (oSet (xLook (lkLoadN (nat_lit 5) g4)) p19 
(oDo (xTurn (tnStore (nat_lit 5) g4 g19)) 
oEnd)) kRet)))))⟩
def q167 : OpdF := kC (.func (.func (nat_lit 100)) ⟨[]⟩ ⟨[]⟩)
def q168 : OpdF := kC (.func (.func (nat_lit 101)) ⟨[]⟩ ⟨[]⟩)
def q169 : OpdF := kC (.func (.func (nat_lit 102)) ⟨[]⟩ ⟨[]⟩)
noncomputable def k69 : KFun := ⟨[rCellN (nat_lit 4) g4 (nat_lit 5)], (kSeq (oSet (xTurn (tnBox g1)) p3 
(oSet (xTurn (tnAlloc q22)) p4 
oEnd)) (kSeq (oSet (xMove q16) p5 
oEnd) (kSeq (kSeq (oSet (xLook (lkFieldAddr (nat_lit 7) g3)) p9 
(oSet (xLook (lkLoad1 g9)) p10 
(oSet (xLook (lkLen .sl g10)) p11 
(oSet (xMove q6) p12 
oEnd)))) (kBlock (nat_lit 0) (kLoop (kSeq (oSet (xLook (lkBin .lss g12 g11)) p13 
oEnd) (kSeq (kCond g13 kSkip (kExit (nat_lit 0))) (kSeq (kBlock (nat_lit 1) (kSeq (oSet (xLook (lkIxSl (nat_lit 1) g10 g12)) p14 
(oSet (xLook (lkLoad1 g14)) p15 
(oSet (xMove g15) p7 
oEnd))) (oSet (xMove g5) p16 
(oSet (xMove g7) p17 
(oSet (xCall q167 [g17]) p18 
(oSet (xTurn (tnBuildSlice q70 [((nat_lit 0), (nat_lit 1), g18)] (nat_lit 1))) p19 
(oSet (xTurn (tnAppend (nat_lit 1) g16 g19)) p20 
(oSet (xMove g20) p5 
oEnd)))))))) (oSet (xLook (lkBin .add g12 q10)) p21 
(oSet (xMove g21) p12 
oEnd)))))))) (kSeq (oSet (xMove g0) p22 
(oSet (xLook (lkFieldAddr (nat_lit 1) g3)) p23 
(oSet (xLook (lkLoad1 g23)) p24 
(oSet (xCall q168 [g22, g24]) p25 
(oSet (xMove g25) p8 
oEnd))))) (kSeq (oSet (xMove g8) p26 
(oSet (xLook (lkLen .sl g26)) p27 
(oSet (xMove g5) p28 
(oSet (xLook (lkLen .sl g28)) p29 
(oSet (xLook (lkBin .add g27 g29)) p30 
(oSet (xLook (lkBin .gtr g30 q69)) p31 
(oSet (xCall q76 [g31, q66]) p32 
oEnd))))))) (kSeq (kDraw 
(dLook (nat_lit 0) [] [] (lkMove g0) p33 
(dLook (nat_lit 1) [] [] (lkFieldAddr (nat_lit 1) g3) p34 
(dLook (nat_lit 2) [] [] (lkLoad1 g34) p35 
(dLook (nat_lit 3) [] [] (lkMove g8) p36 
(dLook (nat_lit 4) [] [] (lkMove g5) p37 
(dTurn (nat_lit 5) [] [] false (xTurn (tnBuildSlice q47 [((nat_lit 0), (nat_lit 1), g36), ((nat_lit 1), (nat_lit 1), g37)] (nat_lit 2))) p38 
(dTurn (nat_lit 6) [(nat_lit 2)] [] true (xCall q169 [g38]) p39 
(dTurn (nat_lit 7) [] [(nat_lit 6)] true (xCall q166 [g33, g35, g39]) p40 (dEnd [(nat_lit 33), (nat_lit 34), (nat_lit 35), (nat_lit 36), (nat_lit 37), (nat_lit 38), (nat_lit 39), (nat_lit 40)])))))))))) (kSeq (oSet (xLook (lkLoadN (nat_lit 5) g4)) p41 
(oDo (xTurn (tnStore (nat_lit 5) g4 g41)) 
oEnd)) kRet)))))))⟩
def q171 : OpdF := kC (.func (.func (nat_lit 103)) ⟨[]⟩ ⟨[]⟩)
def q174 : OpdF := kC (.func (.func (nat_lit 106)) ⟨[]⟩ ⟨[]⟩)
def q178 : OpdF := kC (.func (.func (nat_lit 110)) ⟨[]⟩ ⟨[]⟩)
noncomputable def k74 : KFun := ⟨[rCellN (nat_lit 4) g4 (nat_lit 5)], (kSeq (oSet (xTurn (tnBox g1)) p3 
(oSet (xTurn (tnAlloc q22)) p4 
oEnd)) (kSeq (kSeq (oSet (xMove g0) p7 
(oSet (xNil g7) p8 
(oSet (xLook (lkFieldAddr (nat_lit 0) g8)) p9 
(oSet (xLook (lkLoad1 g9)) p10 
(oSet (xLook (lkLen .sl g10)) p11 
(oSet (xMove q6) p12 
oEnd)))))) (kBlock (nat_lit 0) (kLoop (kSeq (oSet (xLook (lkBin .lss g12 g11)) p13 
oEnd) (kSeq (kCond g13 kSkip (kExit (nat_lit 0))) (kSeq (kBlock (nat_lit 1) (kSeq (oSet (xLook (lkIxSl (nat_lit 2) g10 g12)) p14 
(oSet (xLook (lkLoadN (nat_lit 2) g14)) p15 
(oSet (xTurn (tnAlloc q67)) p6 
(oDo (xTurn (tnStore (nat_lit 2) g6 g15)) 
oEnd)))) (kDraw 
(dLook (nat_lit 0) [] [] (lkFieldAddr (nat_lit 2) g4) p16 
(dLook (nat_lit 1) [] [] (lkLoad1 g16) p17 
(dLook (nat_lit 2) [] [] (lkFieldAddr (nat_lit 0) g6) p18 
(dLook (nat_lit 3) [] [] (lkLoad1 g18) p19 
(dTurn (nat_lit 4) [] [] false (xTurn (tnBuildSlice q19 [((nat_lit 0), (nat_lit 1), g19)] (nat_lit 1))) p20 
(dTurn (nat_lit 5) [] [] true (xTurn (tnAppend (nat_lit 1) g17 g20)) p21 
(dLook (nat_lit 6) [] [] (lkFieldAddr (nat_lit 1) g4) p22 
(dLook (nat_lit 7) [(nat_lit 5)] [] (lkLoad1 g22) p23 
(dLook (nat_lit 8) [] [] (lkFieldAddr (nat_lit 1) g6) p24 
(dLook (nat_lit 9) [(nat_lit 5)] [] (lkLoad1 g24) p25 
(dLook (nat_lit 10) [(nat_lit 5)] [] (lkLen .sl g25) p26 
(dTurn (nat_lit 11) [] [] false (xTurn (tnBuildSlice q36 [((nat_lit 0), (nat_lit 1), g26)] (nat_lit 1))) p27 
(dTurn (nat_lit 12) [] [(nat_lit 5)] true (xTurn (tnAppend (nat_lit 1) g23 g27)) p28 
(dLook (nat_lit 13) [] [(nat_lit 5)] (lkFieldAddr (nat_lit 2) g4) p29 
(dTurn (nat_lit 14) [] [(nat_lit 5), (nat_lit 12)] true (xTurn (tnStore (nat_lit 1) g29 g21)) noDst 
(dLook (nat_lit 15) [] [(nat_lit 5), (nat_lit 12), (nat_lit 14)] (lkFieldAddr (nat_lit 1) g4) p30 
(dTurn (nat_lit 16) [] [(nat_lit 5), (nat_lit 12), (nat_lit 14)] true (xTurn (tnStore (nat_lit 1) g30 g28)) noDst (dEnd [(nat_lit 16), (nat_lit 17), (nat_lit 18), (nat_lit 19), (nat_lit 20), (nat_lit 21), (nat_lit 22), (nat_lit 23), (nat_lit 24), (nat_lit 25), (nat_lit 26), (nat_lit 27), (nat_lit 28), (nat_lit 29), (nat_lit 30)]))))))))))))))))))))) (oSet (xLook (lkBin .add g12 q10)) p31 
(oSet (xMove g31) p12 
oEnd)))))))) (kSeq (oSet (xLook (lkLoadN (nat_lit 5) g4)) p32 
(oDo (xTurn (tnStore (nat_lit 5) g4 g32)) 
oEnd)) kRet)))⟩
def q179 : OpdF := kC (.func (.func (nat_lit 111)) ⟨[]⟩ ⟨[]⟩)
def q180 : OpdF := kC (.func (.func (nat_lit 112)) ⟨[]⟩ ⟨[]⟩)
noncomputable def k75 : KFun := ⟨[rCellN (nat_lit 4) g4 (nat_lit 5)], (kSeq (oSet (xTurn (tnBox g1)) p3 
(oSet (xTurn (tnAlloc q22)) p4 
oEnd)) (kSeq (kDraw 
(dLook (nat_lit 0) [] [] (lkMove g0) p5 
(dLook (nat_lit 1) [] [] (lkFieldAddr (nat_lit 1) g3) p6 
(dLook (nat_lit 2) [] [] (lkLoad1 g6) p7 
(dLook (nat_lit 3) [] [] (lkFieldAddr (nat_lit 5) g3) p8 
(dLook (nat_lit 4) [] [] (lkLoad1 g8) p9 
(dTurn (nat_lit 5) [] [] true (xCall q180 [g5, g7, g9]) p10 
(dLook (nat_lit 6) [] [] (lkFieldAddr (nat_lit 3) g3) p11 
(dLook (nat_lit 7) [(nat_lit 5)] [] (lkLoad1 g11) p12 
(dTurn (nat_lit 8) [] [(nat_lit 5)] true (xCall q179 [g10, g12]) p13 
(dLook (nat_lit 9) [] [(nat_lit 5), (nat_lit 8)] (lkBuild q22 [((nat_lit 2), (nat_lit 1), g13)]) p14 
(dTurn (nat_lit 10) [] [(nat_lit 5), (nat_lit 8)] true (xTurn (tnStore (nat_lit 5) g4 g14)) noDst (dEnd [(nat_lit 5), (nat_lit 6), (nat_lit 7), (nat_lit 8), (nat_lit 9), (nat_lit 10), (nat_lit 11), (nat_lit 12), (nat_lit 13), (nat_lit 14)]))))))))))))) kRet))⟩
def q183 : OpdF := kC (.func (.func (nat_lit 115)) ⟨[]⟩ ⟨[]⟩)
def q187 : OpdF := kC (.func (.func (nat_lit 119)) ⟨[]⟩ ⟨[]⟩)
noncomputable def k86 : KFun := ⟨[rTmp (nat_lit 4) g4], (kSeq (oSet (xMove q0) p4 
oEnd) (kSeq (oSet (xMove g0) p5 
(oSet (xMove g1) p6 
(oSet (xLook (lkIxSl (nat_lit 6) g5 g6)) p7 
(oSet (xLook (lkFieldAddr (nat_lit 0) g7)) p8 
(oSet (xLook (lkLoad1 g8)) p9 
(oSet (xLook (lkEq false .int g9 q121)) p10 
(oSet (xMove g10) p11 
(oSetIf (wantF g11) (xMove g0) p12 
(oSetIf (wantF g11) (xMove g1) p13 
(oSetIf (wantF g11) (xLook (lkIxSl (nat_lit 6) g12 g13)) p14 
(oSetIf (wantF g11) (xLook (lkFieldAddr (nat_lit 0) g14)) p15 
(oSetIf (wantF g11) (xLook (lkLoad1 g15)) p16 
(oSetIf (wantF g11) (xLook (lkEq false .int g16 q122)) p17 
(oSet (xLook (lkPick g11 q2 g17)) p18 
(oSet (xMove g18) p19 
(oSetIf (wantT g19) (xMove g0) p20 
(oSetIf (wantT g19) (xMove g1) p21 
(oSetIf (wantT g19) (xLook (lkIxSl (nat_lit 6) g20 g21)) p22 
(oSetIf (wantT g19) (xLook (lkFieldAddr (nat_lit 4) g22)) p23 
(oSetIf (wantT g19) (xLook (lkLoad1 g23)) p24 
(oSetIf (wantT g19) (xMove g0) p25 
(oSetIf (wantT g19) (xLook (lkLen .sl g25)) p26 
(oSetIf (wantT g19) (xLook (lkBin .sub g26 q10)) p27 
(oSetIf (wantT g19) (xMove g1) p28 
(oSetIf (wantT g19) (xLook (lkBin .sub g27 g28)) p29 
(oSetIf (wantT g19) (xLook (lkBin .gtr g24 g29)) p30 
(oSet (xLook (lkPick g19 g30 q0)) p31 
(oSet (xMove g31) p4 
oEnd)))))))))))))))))))))))))))) kRet))⟩
noncomputable def k87 : KFun := ⟨[rTmp (nat_lit 2) g2], (kSeq (oSet (xMove q0) p2 
oEnd) (kSeq (oSet (xMove g0) p3 
(oSet (xLook (lkEq false .ptr g3 q5)) p4 
(oSet (xMove g4) p5 
(oSetIf (wantF g5) (xMove g0) p6 
(oSetIf (wantF g5) (xNil g6) p7 
(oSetIf (wantF g5) (xLook (lkFieldAddr (nat_lit 0) g7)) p8 
(oSetIf (wantF g5) (xLook (lkLoad1 g8)) p9 
(oSetIf (wantF g5) (xLook (lkUn .not g9)) p10 
(oSet (xLook (lkPick g5 q2 g10)) p11 
(oSet (xMove g11) p2 
oEnd)))))))))) kRet))⟩
def q194 : OpdF := kC (.int .i64 (.ofNat (nat_lit 60000)))
noncomputable def k88 : KFun := ⟨[rTmp (nat_lit 2) g2, rTmp (nat_lit 3) g3], (kSeq (oSet (xMove q6) p2 
(oSet (xMove q6) p3 
oEnd)) (kSeq (kSeq (oSet (xMove g0) p4 
oEnd) (kBlock (nat_lit 0) (kSeq (oSet (xLook (lkEq false .int g4 q66)) p6 
(oSet (xMove g6) p5 
oEnd)) (kCond g5 (kSeq (oSet (xMove q10) p2 
(oSet (xMove q84) p3 
oEnd)) kRet) (kSeq (oSet (xLook (lkEq false .int g4 q124)) p8 
(oSet (xMove g8) p7 
oEnd)) (kCond g7 (kSeq (oSet (xMove q65) p2 
(oSet (xMove q97) p3 
oEnd)) kRet) (kSeq (oSet (xLook (lkEq false .int g4 q65)) p10 
(oSet (xMove g10) p9 
oEnd)) (kCond g9 (kSeq (oSet (xMove q10) p2 
(oSet (xMove q194) p3 
oEnd)) kRet) kSkip)))))))) (kSeq (oSet (xMove q97) p2 
(oSet (xMove q84) p3 
oEnd)) kRet)))⟩
noncomputable def k89 : KFun := ⟨[], (kSeq (oSet xRecover p6 
oEnd) (kBlock (nat_lit 0) (kSeq (oSet (xLook (lkEq false .ifaceNil g6 q116)) p8 
oEnd) (kCond g8 (kSeq (oSet (xMove g6) p3 
oEnd) (oDo (xTurn (tnStore (nat_lit 1) g0 q2)) 
oEnd)) (kSeq (oSet (xLook (lkAssertT (nat_lit 143) (.agg ⟨[(.int .i64 (.ofNat (nat_lit 0))), (.int .i64 (.ofNat (nat_lit 0)))]⟩) true g6)) p9 
(oSet (xLook (lkExtract (nat_lit 1) g9)) p10 
(oSet (xLook (lkExtract (nat_lit 0) g9)) p11 
oEnd))) (kCond g10 (kSeq (oSet (xTurn (tnAlloc q32)) p4 
(oDo (xTurn (tnStore (nat_lit 2) g4 g11)) 
oEnd)) (kDraw 
(dLook (nat_lit 0) [] [] (lkLoad1 g2) p12 
(dLook (nat_lit 1) [] [] (lkLoad1 g2) p13 
(dLook (nat_lit 2) [] [] (lkLoad1 g1) p14 
(dLook (nat_lit 3) [] [] (lkFieldAddr (nat_lit 0) g4) p15 
(dLook (nat_lit 4) [] [] (lkLoadN (nat_lit 2) g15) p16 
(dTurn (nat_lit 5) [] [] false (xNil g12) p17 
(dLook (nat_lit 6) [] [] (lkFieldAddr (nat_lit 4) g17) p18 
(dTurn (nat_lit 7) [(nat_lit 4)] [] true (xTurn (tnStore (nat_lit 1) g18 g14)) noDst 
(dTurn (nat_lit 8) [] [(nat_lit 7)] false (xNil g13) p19 
(dLook (nat_lit 9) [] [(nat_lit 7)] (lkFieldAddr (nat_lit 0) g19) p20 
(dLook (nat_lit 10) [] [(nat_lit 7)] (lkFieldAddr (nat_lit 2) g20) p21 
(dTurn (nat_lit 11) [] [(nat_lit 7)] true (xTurn (tnStore (nat_lit 2) g21 g16)) noDst (dEnd [(nat_lit 12), (nat_lit 13), (nat_lit 14), (nat_lit 15), (nat_lit 16), (nat_lit 17), (nat_lit 18), (nat_lit 19), (nat_lit 20), (nat_lit 21)]))))))))))))))) (kSeq (oSet (xMove g6) p5 
oEnd) (oSet (xMove g5) p7 
(oDo (xPanic g7) 
oEnd)))))))))⟩
noncomputable def k93 : KFun := ⟨[rCellN (nat_lit 2) g2 (nat_lit 256), rTmp (nat_lit 3) g3], (kSeq (oSet (xTurn (tnAlloc q160)) p2 
(oSet (xMove q0) p3 
oEnd)) (kSeq (kSeq (oSet (xMove q6) p4 
oEnd) (kBlock (nat_lit 0) (kLoop (kSeq (kSeq (oSet (xMove g4) p6 
(oSet (xMove g0) p7 
(oSet (xLook (lkLen .str g7)) p8 
(oSet (xLook (lkBin .lss g6 g8)) p9 
oEnd)))) (kCond g9 kSkip (kExit (nat_lit 0)))) (kSeq (kBlock (nat_lit 1) (kSeq (oSet (xMove g0) p12 
(oSet (xMove g4) p13 
(oSet (xLook (lkIxStr g12 g13)) p14 
(oSet (xMove g14) p5 
oEnd)))) (kSeq (kSeq (oSet (xMove g5) p15 
(oSet (xLook (lkBin .geq g15 q155)) p16 
oEnd)) (kCond g16 (kSeq (oSet (xLook (lkLoadN (nat_lit 256) g2)) p17 
(oDo (xTurn (tnStore (nat_lit 256) g2 g17)) 
(oSet (xMove q0) p3 
oEnd))) kRet) kSkip)) (oSet (xMove g5) p18 
(oSet (xLook (lkIxArr (nat_lit 256) (nat_lit 1) g2 g18)) p19 
(oDo (xTurn (tnStore (nat_lit 1) g19 q2)) 
oEnd)))))) (oSet (xMove g4) p10 
(oSet (xLook (lkBin .add g10 q10)) p11 
(oSet (xMove g11) p4 
oEnd)))))))) (kSeq (oSet (xLook (lkLoadN (nat_lit 256) g2)) p20 
(oDo (xTurn (tnStore (nat_lit 256) g2 g20)) 
(oSet (xMove q2) p3 
oEnd))) kRet)))⟩
def q195 : OpdF := kC (.func (.func (nat_lit 126)) ⟨[]⟩ ⟨[]⟩)
noncomputable def k94 : KFun := ⟨[rTmp (nat_lit 4) g4], (kSeq (oSet (xMove q25) p4 
oEnd) (kSeq (kBlock (nat_lit 0) (kLoop (kSeq (kSeq (oSet (xMove g0) p5 
(oSet (xLook (lkLen .str g5)) p6 
(oSet (xLook (lkBin .gtr g6 q6)) p7 
oEnd))) (kCond g7 kSkip (kExit (nat_lit 0)))) (kBlock (nat_lit 1) (kSeq (kSeq (oSet (xMove g1) p8 
(oSet (xMove g0) p9 
(oSet (xLook (lkIxStr g9 q6)) p10 
(oSet (xCall q195 [g8, g10]) p11 
(oSet (xLook (lkUn .not g11)) p12 
oEnd))))) (kCond g12 (kExit (nat_lit 0)) kSkip)) (oSet (xMove g0) p13 
(oSet (xLook (lkSliceStr g13 (some q10) none)) p14 
(oSet (xMove g14) p0 
oEnd)))))))) (kSeq (oSet (xMove g0) p15 
(oSet (xMove g15) p4 
oEnd)) kRet)))⟩
noncomputable def k95 : KFun := ⟨[rTmp (nat_lit 4) g4], (kSeq (oSet (xMove q25) p4 
oEnd) (kSeq (kBlock (nat_lit 0) (kLoop (kSeq (kSeq (oSet (xMove g0) p5 
(oSet (xLook (lkLen .str g5)) p6 
(oSet (xLook (lkBin .gtr g6 q6)) p7 
oEnd))) (kCond g7 kSkip (kExit (nat_lit 0)))) (kBlock (nat_lit 1) (kSeq (kSeq (oSet (xMove g1) p8 
(oSet (xMove g0) p9 
(oSet (xMove g0) p10 
(oSet (xLook (lkLen .str g10)) p11 
(oSet (xLook (lkBin .sub g11 q10)) p12 
(oSet (xLook (lkIxStr g9 g12)) p13 
(oSet (xCall q195 [g8, g13]) p14 
(oSet (xLook (lkUn .not g14)) p15 
oEnd)))))))) (kCond g15 (kExit (nat_lit 0)) kSkip)) (oSet (xMove g0) p16 
(oSet (xMove g0) p17 
(oSet (xLook (lkLen .str g17)) p18 
(oSet (xLook (lkBin .sub g18 q10)) p19 
(oSet (xLook (lkSliceStr g16 none (some g19))) p20 
(oSet (xMove g20) p0 
oEnd))))))))))) (kSeq (oSet (xMove g0) p21 
(oSet (xMove g21) p4 
oEnd)) kRet)))⟩
def q200 : OpdF := kC (.func (.func (nat_lit 130)) ⟨[]⟩ ⟨[]⟩)
noncomputable def k98 : KFun := ⟨[rTmp (nat_lit 4) g4], (kSeq (oSet (xMove q0) p4 
oEnd) (kSeq (oSet (xMove g0) p8 
(oSet (xNil g8) p9 
(oSet (xLook (lkFieldAddr (nat_lit 0) g9)) p10 
(oSet (xLook (lkLoad1 g10)) p11 
(oSet (xMove g1) p12 
(oSet (xCall q200 [g11, g12]) p13 
(oSet (xMove g13) p7 
(oSet (xLook (lkExtract (nat_lit 0) g7)) p14 
(oSet (xLook (lkExtract (nat_lit 1) g7)) p15 
(oSet (xMove g14) p5 
(oSet (xMove g15) p6 
oEnd))))))))))) (kSeq (oSet (xMove g6) p16 
(oSet (xMove g16) p4 
oEnd)) kRet)))⟩
noncomputable def k99 : KFun := ⟨[], (kSeq (oSet (xMove g1) p6 
(oSet (xCall q68 [g6]) p7 
(oSet (xLook (lkUn .not g7)) p8 
(oSet (xCall q76 [g8, q20]) p9 
oEnd)))) (kSeq (oSet (xMove g0) p10 
(oSet (xMove g1) p11 
(oSet (xCall q165 [g10, g11]) p12 
(oSet (xLook (lkUn .not g12)) p13 
(oSet (xMove g13) p14 
(oSetIf (wantT g14) (xMove g0) p15 
(oSetIf (wantT g14) (xNil g15) p16 
(oSetIf (wantT g14) (xLook (lkFieldAddr (nat_lit 0) g16)) p17 
(oSetIf (wantT g14) (xLook (lkLoad1 g17)) p18 
(oSetIf (wantT g14) (xLook (lkLen .sl g18)) p19 
(oSetIf (wantT g14) (xLook (lkBin .geq g19 q65)) p20 
(oSet (xLook (lkPick g14 g20 q0)) p21 
(oSet (xCall q76 [g21, q35]) p22 
oEnd))))))))))))) (oSet (xMove g0) p23 
(oSet (xMove g0) p24 
(oSet (xNil g24) p25 
(oSet (xLook (lkFieldAddr (nat_lit 0) g25)) p26 
(oSet (xLook (lkLoad1 g26)) p27 
(oSet (xMove g1) p28 
(oSet (xMove g2) p29 
(oSet (xLook (lkBuild q67 [((nat_lit 0), (nat_lit 1), g28), ((nat_lit 1), (nat_lit 1), g29)])) p30 
(oSet (xCall q178 [g27, g30]) p31 
(oSet (xNil g23) p32 
(oSet (xLook (lkFieldAddr (nat_lit 0) g32)) p33 
(oDo (xTurn (tnStore (nat_lit 1) g33 g31)) 
oEnd))))))))))))))⟩
def q201 : OpdF := kC (.func (.func (nat_lit 131)) ⟨[]⟩ ⟨[]⟩)
noncomputable def k100 : KFun := ⟨[rTmp (nat_lit 2) g2], (kSeq (oSet (xMove q16) p2 
oEnd) (kSeq (oSet (xMove g0) p6 
(oSet (xTurn (tnToBytes g6)) p7 
(oSet (xCall q201 [g7]) p8 
(oSet (xMove g8) p5 
(oSet (xLook (lkExtract (nat_lit 0) g5)) p9 
(oSet (xLook (lkExtract (nat_lit 1) g5)) p10 
(oSet (xTurn (tnAlloc q32)) p4 
(oSet (xMove g9) p3 
(oDo (xTurn (tnStore (nat_lit 2) g4 g10)) 
oEnd))))))))) (kSeq (oSet (xLook (lkFieldAddr (nat_lit 0) g4)) p11 
(oSet (xLook (lkLoad1 g11)) p12 
(oSet (xLook (lkEq true .int g12 q6)) p13 
(oSet (xCall q76 [g13, q20]) p14 
oEnd)))) (kSeq (oSet (xMove g3) p15 
(oSet (xMove g15) p2 
oEnd)) kRet))))⟩
noncomputable def k101 : KFun := ⟨[rTmp (nat_lit 4) g4], (kSeq (oSet (xMove q16) p4 
oEnd) (kSeq (oSet (xMove g0) p5 
(oSet (xMove g1) p6 
(oSet (xTurn (tnBuildSlice q19 [((nat_lit 0), (nat_lit 1), g6)] (nat_lit 1))) p7 
(oSet (xCall q183 [g5, g7]) p8 
(oSet (xLook (lkIxSl (nat_lit 1) g8 q6)) p9 
(oSet (xLook (lkLoad1 g9)) p10 
(oSet (xMove g10) p4 
oEnd))))))) kRet))⟩
def q202 : OpdF := kC (.string ⟨⟨[108, 101, 110, 32, 111, 117, 116, 32, 111, 102, 32, 114, 97, 110, 103, 101]⟩⟩)
def q203 : OpdF := kC (.func (.func (nat_lit 132)) ⟨[]⟩ ⟨[]⟩)
noncomputable def k102 : KFun := ⟨[rTmp (nat_lit 2) g2], (kSeq (oSet (xMove q16) p2 
oEnd) (kSeq (oSet (xMove q6) p3 
oEnd) (kSeq (kSeq (oSet (xMove g0) p9 
(oSet (xLook (lkLen .sl g9)) p10 
(oSet (xMove q6) p11 
oEnd))) (kBlock (nat_lit 0) (kLoop (kSeq (oSet (xLook (lkBin .lss g11 g10)) p12 
oEnd) (kSeq (kCond g12 kSkip (kExit (nat_lit 0))) (kSeq (kBlock (nat_lit 1) (kSeq (oSet (xLook (lkIxSl (nat_lit 1) g9 g11)) p13 
(oSet (xLook (lkLoad1 g13)) p14 
(oSet (xMove g14) p5 
oEnd))) (kSeq (oSet (xMove g3) p15 
(oSet (xMove g5) p16 
(oSet (xLook (lkLen .sl g16)) p17 
(oSet (xLook (lkBin .add g15 g17)) p18 
(oSet (xMove g18) p3 
oEnd))))) (kSeq (oSet (xMove g3) p19 
(oSet (xLook (lkBin .lss g19 q6)) p20 
oEnd)) (kCond g20 (oSet (xLook (lkMkIface (nat_lit 9) q202)) p21 
(oDo (xPanic g21) 
oEnd)) kSkip))))) (oSet (xLook (lkBin .add g11 q10)) p22 
(oSet (xMove g22) p11 
oEnd)))))))) (kSeq (oSet (xMove g3) p23 
(oSet (xCall q203 [q16, g23]) p24 
(oSet (xMove g24) p6 
oEnd))) (kSeq (kSeq (oSet (xMove g0) p25 
(oSet (xLook (lkLen .sl g25)) p26 
(oSet (xMove q6) p27 
oEnd))) (kBlock (nat_lit 2) (kLoop (kSeq (oSet (xLook (lkBin .lss g27 g26)) p28 
oEnd) (kSeq (kCond g28 kSkip (kExit (nat_lit 2))) (kSeq (kBlock (nat_lit 3) (kSeq (oSet (xLook (lkIxSl (nat_lit 1) g25 g27)) p29 
(oSet (xLook (lkLoad1 g29)) p30 
(oSet (xMove g30) p8 
oEnd))) (oSet (xMove g6) p31 
(oSet (xMove g8) p32 
(oSet (xTurn (tnAppend (nat_lit 1) g31 g32)) p33 
(oSet (xMove g33) p6 
oEnd)))))) (oSet (xLook (lkBin .add g27 q10)) p34 
(oSet (xMove g34) p27 
oEnd)))))))) (kSeq (oSet (xMove g6) p35 
(oSet (xMove g35) p2 
oEnd)) kRet))))))⟩
noncomputable def k103 : KFun := ⟨[rTmp (nat_lit 6) g6], (kSeq (oSet (xMove q6) p6 
oEnd) (kSeq (kSeq (oSet (xMove g0) p10 
(oSet (xNil g10) p11 
(oSet (xLook (lkFieldAddr (nat_lit 0) g11)) p12 
(oSet (xLook (lkLoad1 g12)) p13 
(oSet (xMove g1) p14 
(oSet (xCall q200 [g13, g14]) p15 
(oSet (xMove g15) p9 
(oSet (xLook (lkExtract (nat_lit 0) g9)) p16 
(oSet (xLook (lkExtract (nat_lit 1) g9)) p17 
(oSet (xMove g16) p7 
(oSet (xMove g17) p8 
oEnd))))))))))) (kSeq (oSet (xMove g2) p18 
(oSet (xLook (lkBin .lss g18 q6)) p19 
(oSet (xMove g19) p20 
(oSetIf (wantT g20) (xMove g8) p21 
(oSet (xLook (lkPick g20 g21 q0)) p22 
oEnd))))) (kCond g22 (kSeq (oSet (xMove g0) p23 
(oSet (xNil g23) p24 
(oSet (xLook (lkFieldAddr (nat_lit 0) g24)) p25 
(oSet (xLook (lkLoad1 g25)) p26 
(oSet (xMove g7) p27 
(oSet (xLook (lkIxSl (nat_lit 2) g26 g27)) p28 
(oSet (xLook (lkFieldAddr (nat_lit 1) g28)) p29 
(oSet (xLook (lkLoad1 g29)) p30 
(oSet (xLook (lkLen .sl g30)) p31 
(oSet (xMove g31) p6 
oEnd)))))))))) kRet) kSkip))) (kSeq (oSet (xMove g2) p32 
(oSet (xLook (lkMax g32 [q6])) p33 
(oSet (xMove g33) p6 
oEnd))) kRet)))⟩
def q204 : List Value := [(.int .i64 (.ofNat (nat_lit 0))), (.int .i64 (.ofNat (nat_lit 0))), (.slice none (nat_lit 0) (nat_lit 0)), (.slice none (nat_lit 0) (nat_lit 0)), (.slice none (nat_lit 0) (nat_lit 0))]
noncomputable def k106 : KFun := ⟨[], (kSeq (oSet (xMove g0) p2 
(oSet (xLook (lkEq true .int g2 q6)) p3 
oEnd)) (kCond g3 (oSet (xMove g0) p4 
(oSet (xLook (lkBuild q36 [((nat_lit 0), (nat_lit 1), g4)])) p5 
(oSet (xLook (lkMkIface (nat_lit 102) g5)) p6 
(oDo (xPanic g6) 
oEnd)))) kSkip))⟩
def q213 : OpdF := kC (.func (.func (nat_lit 141)) ⟨[]⟩ ⟨[]⟩)
def q217 : OpdF := kC (.func (.func (nat_lit 146)) ⟨[]⟩ ⟨[]⟩)
def q218 : OpdF := kC (.func (.func (nat_lit 145)) ⟨[]⟩ ⟨[]⟩)
def q219 : OpdF := kC (.func (.func (nat_lit 147)) ⟨[]⟩ ⟨[]⟩)
noncomputable def k110 : KFun := ⟨[rTmp (nat_lit 4) g4], (kSeq (oSet (xTurn (tnBox g1)) p3 
(oSet (xMove q16) p4 
oEnd)) (kSeq (oSet (xMove g0) p8 
(oSet (xLook (lkFieldAddr (nat_lit 0) g3)) p9 
(oSet (xLook (lkLoad1 g9)) p10 
(oSet (xCall q200 [g8, g10]) p11 
(oSet (xMove g11) p7 
(oSet (xLook (lkExtract (nat_lit 0) g7)) p12 
(oSet (xLook (lkExtract (nat_lit 1) g7)) p13 
(oSet (xMove g12) p5 
(oSet (xMove g13) p6 
oEnd))))))))) (kSeq (kSeq (oSet (xMove g6) p14 
oEnd) (kCond g14 (oSet (xMove g0) p15 
(oSet (xCall q217 [g15]) p16 
(oSet (xMove g5) p17 
(oSet (xMove g5) p18 
(oSet (xLook (lkBin .add g18 q10)) p19 
(oSet (xCall q218 [g16, g17, g19]) p20 
(oSet (xMove g20) p0 
oEnd))))))) kSkip)) (kSeq (kDraw 
(dLook (nat_lit 0) [] [] (lkMove g0) p21 
(dTurn (nat_lit 1) [] [] true (xCall q217 [g21]) p22 
(dLook (nat_lit 2) [] [] (lkMove g5) p23 
(dLook (nat_lit 3) [(nat_lit 1)] [] (lkLoadN (nat_lit 2) g3) p24 
(dTurn (nat_lit 4) [] [] false (xTurn (tnBuildSlice q67 [((nat_lit 0), (nat_lit 2), g24)] (nat_lit 1))) p25 
(dTurn (nat_lit 5) [] [(nat_lit 1)] true (xCall q219 [g22, g23, g25]) p26 
(dLook (nat_lit 6) [] [(nat_lit 1), (nat_lit 5)] (lkMove g26) p4 (dEnd [(nat_lit 21), (nat_lit 22), (nat_lit 23), (nat_lit 24), (nat_lit 25), (nat_lit 26), (nat_lit 4)]))))))))) kRet))))⟩
def q220 : OpdF := kC (.func (.func (nat_lit 148)) ⟨[]⟩ ⟨[]⟩)
noncomputable def k111 : KFun := ⟨[rTmp (nat_lit 4) g4], (kSeq (oSet (xMove q16) p4 
oEnd) (kSeq (oSet (xMove g0) p8 
(oSet (xMove g1) p9 
(oSet (xCall q220 [g8, g9]) p10 
(oSet (xMove g10) p7 
(oSet (xLook (lkExtract (nat_lit 0) g7)) p11 
(oSet (xLook (lkExtract (nat_lit 1) g7)) p12 
(oSet (xMove g11) p5 
(oSet (xMove g12) p6 
oEnd)))))))) (kSeq (kSeq (oSet (xMove g6) p13 
(oSet (xLook (lkUn .not g13)) p14 
oEnd)) (kCond g14 (kSeq (oSet (xMove q16) p4 
oEnd) kRet) kSkip)) (kSeq (oSet (xMove g5) p15 
(oSet (xTurn (tnBuildSlice q19 [((nat_lit 0), (nat_lit 1), g15)] (nat_lit 1))) p16 
(oSet (xMove g16) p4 
oEnd))) kRet))))⟩
def q221 : OpdF := kC (.func (.func (nat_lit 149)) ⟨[]⟩ ⟨[]⟩)
noncomputable def k112 : KFun := ⟨[rTmp (nat_lit 6) g6], (kSeq (oSet (xMove q16) p6 
oEnd) (kSeq (oSet (xMove g0) p10 
(oSet (xMove g1) p11 
(oSet (xCall q168 [g10, g11]) p12 
(oSet (xMove g12) p7 
oEnd)))) (kSeq (oSet (xMove g7) p14 
(oSet (xMove g0) p15 
(oSet (xMove g1) p16 
(oSet (xMove g2) p17 
(oSet (xCall q171 [g15, g16, g17]) p18 
(oSet (xCall q221 [g14, g18]) p19 
(oSet (xMove g19) p13 
(oSet (xLook (lkExtract (nat_lit 0) g13)) p20 
(oSet (xLook (lkExtract (nat_lit 1) g13)) p21 
(oSet (xMove g20) p8 
(oSet (xMove g21) p9 
oEnd))))))))))) (kSeq (oSet (xMove g9) p22 
(oSet (xCall q174 [g22]) p23 
oEnd)) (kSeq (oSet (xMove g8) p24 
(oSet (xMove g24) p6 
oEnd)) kRet)))))⟩
def q222 : OpdF := kC (.func (.func (nat_lit 150)) ⟨[]⟩ ⟨[]⟩)
def q223 : OpdF := kC (.func (.func (nat_lit 151)) ⟨[]⟩ ⟨[]⟩)
noncomputable def k115 : KFun := ⟨[rTmp (nat_lit 4) g4], (kSeq (oSet (xMove q16) p4 
oEnd) (kSeq (oSet (xMove q16) p5 
oEnd) (kSeq (kSeq (oSet (xMove g1) p10 
(oSet (xLook (lkLen .sl g10)) p11 
(oSet (xMove q6) p12 
oEnd))) (kBlock (nat_lit 0) (kLoop (kSeq (oSet (xLook (lkBin .lss g12 g11)) p13 
oEnd) (kSeq (kCond g13 kSkip (kExit (nat_lit 0))) (kSeq (kBlock (nat_lit 1) (kSeq (oSet (xLook (lkIxSl (nat_lit 1) g10 g12)) p14 
(oSet (xLook (lkLoad1 g14)) p15 
(oSet (xMove g15) p7 
oEnd))) (kSeq (oSet (xMove g0) p17 
(oSet (xNil g17) p18 
(oSet (xLook (lkFieldAddr (nat_lit 0) g18)) p19 
(oSet (xLook (lkLoad1 g19)) p20 
(oSet (xMove g7) p21 
(oSet (xCall q200 [g20, g21]) p22 
(oSet (xMove g22) p16 
(oSet (xLook (lkExtract (nat_lit 0) g16)) p23 
(oSet (xLook (lkExtract (nat_lit 1) g16)) p24 
(oSet (xMove g23) p8 
(oSet (xMove g24) p9 
oEnd))))))))))) (kSeq (oSet (xMove g9) p25 
(oSet (xLook (lkUn .not g25)) p26 
(oSet (xCall q76 [g26, q118]) p27 
oEnd))) (oSet (xMove g5) p28 
(oSet (xMove g0) p29 
(oSet (xNil g29) p30 
(oSet (xLook (lkFieldAddr (nat_lit 0) g30)) p31 
(oSet (xLook (lkLoad1 g31)) p32 
(oSet (xMove g8) p33 
(oSet (xLook (lkIxSl (nat_lit 2) g32 g33)) p34 
(oSet (xLook (lkFieldAddr (nat_lit 1) g34)) p35 
(oSet (xLook (lkLoad1 g35)) p36 
(oSet (xTurn (tnBuildSlice q70 [((nat_lit 0), (nat_lit 1), g36)] (nat_lit 1))) p37 
(oSet (xTurn (tnAppend (nat_lit 1) g28 g37)) p38 
(oSet (xMove g38) p5 
oEnd)))))))))))))))) (oSet (xLook (lkBin .add g12 q10)) p39 
(oSet (xMove g39) p12 
oEnd)))))))) (kSeq (oSet (xMove g5) p40 
(oSet (xMove g40) p4 
oEnd)) kRet))))⟩
def q226 : List Value := [(.slice none (nat_lit 0) (nat_lit 0)), (.int .i64 (.ofNat (nat_lit 0)))]
def q227 : OpdF := kC (.func (.func (nat_lit 154)) ⟨[]⟩ ⟨[]⟩)
def q228 : OpdF := kC (.func (.func (nat_lit 155)) ⟨[]⟩ ⟨[]⟩)
def q229 : OpdF := kC (.func (.func (nat_lit 156)) ⟨[]⟩ ⟨[]⟩)
noncomputable def k119 : KFun := ⟨[rTmp (nat_lit 2) g2], (kSeq (oSet (xMove q16) p2 
oEnd) (kSeq (oSet (xMove g0) p4 
(oSet (xCall q228 [g4]) p5 
(oSet (xMove g5) p3 
oEnd))) (kSeq (oSet (xMove g3) p6 
(oSet (xCall q229 [g6]) p7 
oEnd)) (kSeq (oSet (xMove g3) p8 
(oSet (xMove g8) p2 
oEnd)) kRet))))⟩
def q230 : OpdF := kC .nilFunc
def q233 : List Value := [(.map none)]
def q244 : OpdF := kC (.int .i64 (.ofNat (nat_lit 32)))
noncomputable def k126 : KFun := ⟨[rTmp (nat_lit 4) g4], (kSeq (oSet (xMove q0) p4 
oEnd) (kSeq (oSet (xMove g0) p5 
(oSet (xMove g1) p6 
(oSet (xNil g5) p7 
(oSet (xLook (lkIxArr (nat_lit 256) (nat_lit 1) g7 g6)) p8 
(oSet (xLook (lkLoad1 g8)) p9 
(oSet (xMove g9) p4 
oEnd)))))) kRet))⟩
def q262 : OpdF := kC (.func (.func (nat_lit 177)) ⟨[]⟩ ⟨[]⟩)
def q263 : OpdF := kC (.func (.func (nat_lit 178)) ⟨[]⟩ ⟨[]⟩)
noncomputable def k130 : KFun := ⟨[rTmp (nat_lit 4) g4, rTmp (nat_lit 5) g5], (kSeq (oSet (xMove q6) p4 
(oSet (xMove q0) p5 
oEnd)) (kSeq (oSet (xMove g0) p6 
(oSet (xMove g1) p7 
(oSet (xCall q262 [g6, g7, q263]) p8 
(oSet (xLook (lkExtract (nat_lit 0) g8)) p9 
(oSet (xLook (lkExtract (nat_lit 1) g8)) p10 
(oSet (xMove g9) p4 
(oSet (xMove g10) p5 
oEnd))))))) kRet))⟩
def q264 : OpdF := kC (.func (.func (nat_lit 179)) ⟨[]⟩ ⟨[]⟩)
def q265 : List Value := [(.int .i64 (.ofNat (nat_lit 0))), (.int .i64 (.ofNat (nat_lit 0))), (.int .i64 (.ofNat (nat_lit 0))), (.int .i64 (.ofNat (nat_lit 0))), (.int .i64 (.ofNat (nat_lit 0))), (.int .i64 (.ofNat (nat_lit 0))), (.int .i64 (.ofNat (nat_lit 0))), (.int .i64 (.ofNat (nat_lit 0))), (.int .i64 (.ofNat (nat_lit 0))), (.int .i64 (.ofNat (nat_lit 0))), (.int .i64 (.ofNat (nat_lit 0))), (.int .i64 (.ofNat (nat_lit 0))), (.int .i64 (.ofNat (nat_lit 0))), (.int .i64 (.ofNat (nat_lit 0))), (.int .i64 (.ofNat (nat_lit 0))), (.int .i64 (.ofNat (nat_lit 0))), (.int .i64 (.ofNat (nat_lit 0))), (.int .i64 (.ofNat (nat_lit 0))), (.int .i64 (.ofNat (nat_lit 0))), (.int .i64 (.ofNat (nat_lit 0))), (.int .i64 (.ofNat (nat_lit 0))), (.int .i64 (.ofNat (nat_lit 0))), (.int .i64 (.ofNat (nat_lit 0))), (.int .i64 (.ofNat (nat_lit 0))), (.int .i64 (.ofNat (nat_lit 0))), (.int .i64 (.ofNat (nat_lit 0))), (.int .i64 (.ofNat (nat_lit 0))), (.int .i64 (.ofNat (nat_lit 0))), (.int .i64 (.ofNat (nat_lit 0))), (.int .i64 (.ofNat (nat_lit 0))), (.int .i64 (.ofNat (nat_lit 0))), (.int .i64 (.ofNat (nat_lit 0))), (.int .i64 (.ofNat (nat_lit 0))), (.int .i64 (.ofNat (nat_lit 0))), (.int .i64 (.ofNat (nat_lit 0))), (.int .i64 (.ofNat (nat_lit 0))), (.int .i64 (.ofNat (nat_lit 0))), (.int .i64 (.ofNat (nat_lit 0))), (.int .i64 (.ofNat (nat_lit 0))), (.int .i64 (.ofNat (nat_lit 0))), (.int .i64 (.ofNat (nat_lit 0))), (.int .i64 (.ofNat (nat_lit 0))), (.int .i64 (.ofNat (nat_lit 0))), (.int .i64 (.ofNat (nat_lit 0))), (.int .i64 (.ofNat (nat_lit 0))), (.int .i64 (.ofNat (nat_lit 0))), (.int .i64 (.ofNat (nat_lit 0))), (.int .i64 (.ofNat (nat_lit 0))), (.int .i64 (.ofNat (nat_lit 0))), (.int .i64 (.ofNat (nat_lit 0))), (.int .i64 (.ofNat (nat_lit 0))), (.int .i64 (.ofNat (nat_lit 0))), (.int .i64 (.ofNat (nat_lit 0))), (.int .i64 (.ofNat (nat_lit 0))), (.int .i64 (.ofNat (nat_lit 0))), (.int .i64 (.ofNat (nat_lit 0))), (.int .i64 (.ofNat (nat_lit 0))), (.int .i64 (.ofNat (nat_lit 0))), (.int .i64 (.ofNat (nat_lit 0))), (.int .i64 (.ofNat (nat_lit 0)))]
def q266 : OpdF := kC (.func (.func (nat_lit 180)) ⟨[]⟩ ⟨[]⟩)
noncomputable def k131 : KFun := ⟨[rTmp (nat_lit 2) g2, rCellN (nat_lit 3) g3 (nat_lit 2)], (kSeq (oSet (xMove q16) p2 
(oSet (xTurn (tnAlloc q32)) p3 
oEnd)) (kSeq (kSeq (oSet (xMove g0) p15 
(oSet (xLook (lkLen .sl g15)) p16 
(oSet (xLook (lkBin .gtr g16 q84)) p17 
oEnd))) (kCond g17 (kSeq (oSet (xLook (lkBuild q32 [((nat_lit 0), (nat_lit 1), q66), ((nat_lit 1), (nat_lit 1), q84)])) p18 
(oSet (xMove q16) p2 
(oDo (xTurn (tnStore (nat_lit 2) g3 g18)) 
oEnd))) kRet) kSkip)) (kSeq (oSet (xMove g0) p19 
(oSet (xCall q54 [g19]) p20 
(oSet (xMove g20) p4 
oEnd))) (kSeq (oSet (xMove g4) p21 
(oSet (xCall q57 [g21, q78]) p22 
(oSet (xMove g22) p5 
oEnd))) (kSeq (kSeq (oSet (xMove g4) p23 
(oSet (xCall q112 [g23]) p24 
(oSet (xTurn (tnAlloc q32)) p6 
(oDo (xTurn (tnStore (nat_lit 2) g6 g24)) 
oEnd)))) (kSeq (oSet (xLook (lkFieldAddr (nat_lit 0) g6)) p25 
(oSet (xLook (lkLoad1 g25)) p26 
(oSet (xLook (lkEq true .int g26 q6)) p27 
oEnd))) (kCond g27 (kSeq (kDraw 
(dLook (nat_lit 0) [] [] (lkLoadN (nat_lit 2) g6) p28 
(dLook (nat_lit 1) [] [] (lkMove q16) p2 
(dTurn (nat_lit 2) [] [] true (xTurn (tnStore (nat_lit 2) g3 g28)) noDst (dEnd [(nat_lit 28), (nat_lit 2)]))))) kRet) kSkip))) (kSeq (oSet (xMove g4) p29 
(oSet (xCall q264 [g29]) p30 
(oSet (xMove g30) p7 
oEnd))) (kSeq (oSet (xTurn (tnAlloc q265)) p8 
oEnd) (kSeq (oSet (xLook (lkSliceArr (nat_lit 60) (nat_lit 1) g8 none (some q6) none)) p31 
(oSet (xMove g31) p9 
oEnd)) (kSeq (oSet (xMove q16) p10 
oEnd) (kSeq (kSeq (oSet (xMove g5) p32 
(oSet (xMove q6) p33 
oEnd)) (kBlock (nat_lit 0) (kLoop (kSeq (oSet (xLook (lkBin .lss g33 g32)) p34 
oEnd) (kSeq (kCond g34 kSkip (kExit (nat_lit 0))) (kSeq (kBlock (nat_lit 1) (kSeq (oSet (xMove g0) p36 
(oSet (xMove g7) p37 
(oSet (xCall q266 [g36, g37]) p38 
(oSet (xMove g38) p35 
(oSet (xLook (lkExtract (nat_lit 0) g35)) p39 
(oSet (xLook (lkExtract (nat_lit 1) g35)) p40 
(oSet (xLook (lkExtract (nat_lit 2) g35)) p41 
(oSet (xTurn (tnAlloc q26)) p11 
(oSet (xTurn (tnAlloc q32)) p13 
(oDo (xTurn (tnStore (nat_lit 6) g11 g39)) 
(oSet (xMove g40) p12 
(oDo (xTurn (tnStore (nat_lit 2) g13 g41)) 
oEnd)))))))))))) (kSeq (kSeq (oSet (xLook (lkFieldAddr (nat_lit 0) g13)) p42 
(oSet (xLook (lkLoad1 g42)) p43 
(oSet (xLook (lkEq true .int g43 q6)) p44 
oEnd))) (kCond g44 (kSeq (kDraw 
(dLook (nat_lit 0) [] [] (lkLoadN (nat_lit 2) g13) p45 
(dLook (nat_lit 1) [] [] (lkMove q16) p2 
(dTurn (nat_lit 2) [] [] true (xTurn (tnStore (nat_lit 2) g3 g45)) noDst (dEnd [(nat_lit 45), (nat_lit 2)]))))) kRet) kSkip)) (kSeq (oSet (xMove g9) p46 
(oSet (xMove g7) p47 
(oSet (xTurn (tnBuildSlice q36 [((nat_lit 0), (nat_lit 1), g47)] (nat_lit 1))) p48 
(oSet (xTurn (tnAppend (nat_lit 1) g46 g48)) p49 
(oSet (xMove g49) p9 
oEnd))))) (oSet (xMove g10) p50 
(oSet (xLook (lkLoadN (nat_lit 6) g11)) p51 
(oSet (xTurn (tnBuildSlice q26 [((nat_lit 0), (nat_lit 6), g51)] (nat_lit 1))) p52 
(oSet (xTurn (tnAppend (nat_lit 6) g50 g52)) p53 
(oSet (xMove g12) p54 
(oSet (xMove g53) p10 
(oSet (xMove g54) p7 
oEnd))))))))))) (oSet (xLook (lkBin .add g33 q10)) p55 
(oSet (xMove g55) p33 
oEnd)))))))) (kSeq (kSeq (oSet (xMove g7) p56 
(oSet (xMove g0) p57 
(oSet (xLook (lkLen .sl g57)) p58 
(oSet (xLook (lkBin .lss g56 g58)) p59 
oEnd)))) (kCond g59 (kSeq (oSet (xMove g7) p60 
(oSet (xLook (lkBuild q32 [((nat_lit 0), (nat_lit 1), q27), ((nat_lit 1), (nat_lit 1), g60)])) p61 
(oSet (xMove q16) p2 
(oDo (xTurn (tnStore (nat_lit 2) g3 g61)) 
oEnd)))) kRet) kSkip)) (kSeq (kSeq (oSet (xMove g10) p62 
(oSet (xCall q80 [g62]) p63 
(oSet (xMove g63) p14 
oEnd))) (kSeq (oSet (xMove g14) p64 
(oSet (xLook (lkBin .geq g64 q6)) p65 
oEnd)) (kCond g65 (kSeq (kDraw 
(dLook (nat_lit 0) [] [] (lkMove g9) p66 
(dLook (nat_lit 1) [] [] (lkMove g14) p67 
(dLook (nat_lit 2) [] [] (lkIxSl (nat_lit 1) g66 g67) p68 
(dLook (nat_lit 3) [] [] (lkLoad1 g68) p69 
(dLook (nat_lit 4) [] [] (lkBuild q32 [((nat_lit 0), (nat_lit 1), q81), ((nat_lit 1), (nat_lit 1), g69)]) p70 
(dLook (nat_lit 5) [] [] (lkMove q16) p2 
(dTurn (nat_lit 6) [] [] true (xTurn (tnStore (nat_lit 2) g3 g70)) noDst (dEnd [(nat_lit 66), (nat_lit 67), (nat_lit 68), (nat_lit 69), (nat_lit 70), (nat_lit 2)]))))))))) kRet) kSkip))) (kSeq (oSet (xMove g10) p71 
(oSet (xLook (lkBuild q32 [])) p72 
(oSet (xMove g71) p2 
(oDo (xTurn (tnStore (nat_lit 2) g3 g72)) 
oEnd)))) kRet)))))))))))))⟩
def q267 : OpdF := kC (.string ⟨⟨[99, 97, 110, 110, 111, 116, 32, 98, 101, 32, 110, 101, 103, 97, 116, 105, 118, 101]⟩⟩)
noncomputable def k132 : KFun := ⟨[rTmp (nat_lit 4) g4], (kSeq (oSet (xMove q16) p4 
oEnd) (kSeq (kSeq (oSet (xMove g1) p5 
(oSet (xLook (lkBin .lss g5 q6)) p6 
oEnd)) (kCond g6 (oSet (xLook (lkMkIface (nat_lit 9) q267)) p7 
(oDo (xPanic g7) 
oEnd)) kSkip)) (kSeq (kSeq (oSet (xMove g1) p8 
(oSet (xMove g0) p9 
(oSet (xLook (lkCap g9)) p10 
(oSet (xMove g0) p11 
(oSet (xLook (lkLen .sl g11)) p12 
(oSet (xLook (lkBin .sub g10 g12)) p13 
(oSet (xLook (lkBin .sub g8 g13)) p14 
(oSet (xMove g14) p1 
oEnd)))))))) (kSeq (oSet (xMove g1) p15 
(oSet (xLook (lkBin .gtr g15 q6)) p16 
oEnd)) (kCond g16 (oSet (xMove g0) p17 
(oSet (xMove g0) p18 
(oSet (xLook (lkCap g18)) p19 
(oSet (xLook (lkSliceSl (nat_lit 1) g17 none (some g19) none)) p20 
(oSet (xMove g1) p21 
(oSet (xTurn (tnAppendZ q70 g20 g21)) p22 
(oSet (xMove g0) p23 
(oSet (xLook (lkLen .sl g23)) p24 
(oSet (xLook (lkSliceSl (nat_lit 1) g22 none (some g24) none)) p25 
(oSet (xMove g25) p0 
oEnd)))))))))) kSkip))) (kSeq (oSet (xMove g0) p26 
(oSet (xMove g26) p4 
oEnd)) kRet))))⟩
def q268 : OpdF := kC (.int .i64 (.ofNat (nat_lit 200)))
def q272 : OpdF := kC (.func (.func (nat_lit 184)) ⟨[]⟩ ⟨[]⟩)
def q274 : OpdF := kC (.func (.func (nat_lit 135)) ⟨[]⟩ ⟨[]⟩)
def q275 : List Value := [(.string ⟨⟨[]⟩⟩), (.string ⟨⟨[]⟩⟩), (.string ⟨⟨[]⟩⟩), (.string ⟨⟨[]⟩⟩), (.string ⟨⟨[]⟩⟩), (.string ⟨⟨[]⟩⟩), (.string ⟨⟨[]⟩⟩), (.string ⟨⟨[]⟩⟩), (.map none), (.slice none (nat_lit 0) (nat_lit 0)), (.int .i64 (.ofNat (nat_lit 0))), (.int .i64 (.ofNat (nat_lit 0))), (.int .i64 (.ofNat (nat_lit 0))), (.slice none (nat_lit 0) (nat_lit 0)), (.slice none (nat_lit 0) (nat_lit 0)), (.slice none (nat_lit 0) (nat_lit 0))]
def q276 : OpdF := kC (.func (.func (nat_lit 186)) ⟨[]⟩ ⟨[]⟩)
def q277 : OpdF := kC (.func (.func (nat_lit 188)) ⟨[]⟩ ⟨[]⟩)
def q278 : OpdF := kC (.func (.func (nat_lit 187)) ⟨[]⟩ ⟨[]⟩)
def q279 : OpdF := kC (.func (.func (nat_lit 189)) ⟨[]⟩ ⟨[]⟩)
noncomputable def k135 : KFun := ⟨[rCellN (nat_lit 4) g4 (nat_lit 5), rTmp (nat_lit 5) g5], (kSeq (oSet (xTurn (tnAlloc q204)) p4 
(oSet (xMove q6) p5 
oEnd)) (kSeq (kSeq (oSet (xMove g0) p11 
(oSet (xCall q42 [g11]) p12 
(oSet (xMove g12) p10 
(oSet (xLook (lkExtract (nat_lit 0) g10)) p13 
(oSet (xLook (lkExtract (nat_lit 1) g10)) p14 
(oSet (xMove g13) p6 
(oSet (xMove g14) p7 
oEnd))))))) (kSeq (oSet (xMove g6) p15 
(oSet (xLook (lkEq true .int g15 q6)) p16 
oEnd)) (kCond g16 (kSeq (oSet (xLook (lkBuild q204 [])) p17 
(oSet (xMove g6) p18 
(oDo (xTurn (tnStore (nat_lit 5) g4 g17)) 
(oSet (xMove g18) p5 
oEnd)))) kRet) kSkip))) (kSeq (kSeq (oSet (xMove g1) p19 
(oSet (xCall q222 [g19]) p20 
(oSet (xMove g20) p8 
oEnd))) (kSeq (oSet (xMove g8) p21 
(oSet (xLook (lkEq true .int g21 q6)) p22 
oEnd)) (kCond g22 (kSeq (oSet (xLook (lkBuild q204 [])) p23 
(oSet (xMove g8) p24 
(oDo (xTurn (tnStore (nat_lit 5) g4 g23)) 
(oSet (xMove g24) p5 
oEnd)))) kRet) kSkip))) (kSeq (oSet (xTurn (tnMkMap (.one .str))) p25 
(oSet (xLook (lkBuild q233 [((nat_lit 0), (nat_lit 1), g25)])) p26 
(oSet (xMove g1) p27 
(oSet (xLook (lkBuild q275 [((nat_lit 8), (nat_lit 1), g26), ((nat_lit 9), (nat_lit 1), g27)])) p28 
(oSet (xTurn (tnBox g28)) p29 
(oSet (xMove g29) p9 
oEnd)))))) (kSeq (oSet (xMove g9) p30 
(oSet (xMove g0) p31 
(oSet (xCall q276 [g30, g31]) p32 
oEnd))) (kSeq (kDraw 
(dLook (nat_lit 0) [] [] (lkMove g9) p33 
(dLook (nat_lit 1) [] [] (lkMove g9) p34 
(dLook (nat_lit 2) [] [] (lkMove g9) p35 
(dTurn (nat_lit 3) [] [] false (xNil g35) p36 
(dLook (nat_lit 4) [] [] (lkFieldAddr (nat_lit 11) g36) p37 
(dLook (nat_lit 5) [] [] (lkFieldAddr (nat_lit 2) g37) p38 
(dLook (nat_lit 6) [] [] (lkLoad1 g38) p39 
(dTurn (nat_lit 7) [] [] true (xCall q278 [g39]) p40 
(dLook (nat_lit 8) [] [] (lkMove g9) p41 
(dTurn (nat_lit 9) [] [] false (xNil g41) p42 
(dLook (nat_lit 10) [] [] (lkFieldAddr (nat_lit 11) g42) p43 
(dLook (nat_lit 11) [] [] (lkFieldAddr (nat_lit 3) g43) p44 
(dLook (nat_lit 12) [(nat_lit 7)] [] (lkLoad1 g44) p45 
(dTurn (nat_lit 13) [] [(nat_lit 7)] true (xCall q277 [g45]) p46 
(dTurn (nat_lit 14) [] [(nat_lit 7), (nat_lit 13)] false (xNil g33) p47 
(dLook (nat_lit 15) [] [(nat_lit 7), (nat_lit 13)] (lkFieldAddr (nat_lit 11) g47) p48 
(dLook (nat_lit 16) [] [(nat_lit 7), (nat_lit 13)] (lkFieldAddr (nat_lit 2) g48) p49 
(dTurn (nat_lit 17) [] [(nat_lit 7), (nat_lit 13)] true (xTurn (tnStore (nat_lit 1) g49 g40)) noDst 
(dTurn (nat_lit 18) [] [(nat_lit 7), (nat_lit 13), (nat_lit 17)] false (xNil g34) p50 
(dLook (nat_lit 19) [] [(nat_lit 7), (nat_lit 13), (nat_lit 17)] (lkFieldAddr (nat_lit 11) g50) p51 
(dLook (nat_lit 20) [] [(nat_lit 7), (nat_lit 13), (nat_lit 17)] (lkFieldAddr (nat_lit 3) g51) p52 
(dTurn (nat_lit 21) [] [(nat_lit 7), (nat_lit 13), (nat_lit 17)] true (xTurn (tnStore (nat_lit 1) g52 g46)) noDst (dEnd [(nat_lit 33), (nat_lit 34), (nat_lit 35), (nat_lit 36), (nat_lit 37), (nat_lit 38), (nat_lit 39), (nat_lit 40), (nat_lit 41), (nat_lit 42), (nat_lit 43), (nat_lit 44), (nat_lit 45), (nat_lit 46), (nat_lit 47), (nat_lit 48), (nat_lit 49), (nat_lit 50), (nat_lit 51), (nat_lit 52)])))))))))))))))))))))))) (kSeq (kSeq (oSet (xMove g9) p53 
(oSet (xNil g53) p54 
(oSet (xLook (lkFieldAddr (nat_lit 11) g54)) p55 
(oSet (xLook (lkFieldAddr (nat_lit 0) g55)) p56 
(oSet (xLook (lkLoad1 g56)) p57 
(oSet (xLook (lkEq false .int g57 q6)) p58 
oEnd)))))) (kCond g58 (oSet (xMove g9) p59 
(oSet (xMove g9) p60 
(oSet (xNil g60) p61 
(oSet (xLook (lkFieldAddr (nat_lit 8) g61)) p62 
(oSet (xCall q279 [g62]) p63 
(oSet (xNil g59) p64 
(oSet (xLook (lkFieldAddr (nat_lit 11) g64)) p65 
(oSet (xLook (lkFieldAddr (nat_lit 4) g65)) p66 
(oDo (xTurn (tnStore (nat_lit 1) g66 g63)) 
oEnd))))))))) kSkip)) (kSeq (oSet (xMove g9) p67 
(oSet (xNil g67) p68 
(oSet (xLook (lkFieldAddr (nat_lit 11) g68)) p69 
(oSet (xLook (lkLoadN (nat_lit 5) g69)) p70 
(oDo (xTurn (tnStore (nat_lit 5) g4 g70)) 
(oSet (xMove q6) p5 
oEnd)))))) kRet))))))))⟩
def q280 : OpdF := kC (.func (.func (nat_lit 190)) ⟨[]⟩ ⟨[]⟩)
def q282 : OpdF := kC (.func (.func (nat_lit 192)) ⟨[]⟩ ⟨[]⟩)
def q286 : OpdF := kC (.func (.func (nat_lit 196)) ⟨[]⟩ ⟨[]⟩)
noncomputable def k141 : KFun := ⟨[rTmp (nat_lit 2) g2], (kSeq (oSet (xMove q6) p2 
oEnd) (kSeq (kSeq (oSet (xMove g0) p7 
(oSet (xLook (lkLen .sl g7)) p8 
(oSet (xLook (lkBin .gtr g8 q69)) p9 
oEnd))) (kCond g9 (kSeq (oSet (xMove q66) p2 
oEnd) kRet) kSkip)) (kSeq (kSeq (oSet (xMove g0) p10 
(oSet (xLook (lkLen .sl g10)) p11 
(oSet (xMove q6) p12 
oEnd))) (kBlock (nat_lit 0) (kLoop (kSeq (oSet (xLook (lkBin .lss g12 g11)) p13 
oEnd) (kSeq (kCond g13 kSkip (kExit (nat_lit 0))) (kSeq (kBlock (nat_lit 1) (kSeq (oSet (xLook (lkIxSl (nat_lit 1) g10 g12)) p14 
(oSet (xLook (lkLoad1 g14)) p15 
(oSet (xMove g15) p4 
oEnd))) (kSeq (oSet (xMove g4) p17 
(oSet (xCall q42 [g17]) p18 
(oSet (xMove g18) p16 
(oSet (xLook (lkExtract (nat_lit 0) g16)) p19 
(oSet (xLook (lkExtract (nat_lit 1) g16)) p20 
(oSet (xMove g19) p5 
(oSet (xMove g20) p6 
oEnd))))))) (kSeq (oSet (xMove g5) p21 
(oSet (xLook (lkEq true .int g21 q6)) p22 
oEnd)) (kCond g22 (kSeq (oSet (xMove g5) p23 
(oSet (xMove g23) p2 
oEnd)) kRet) kSkip))))) (oSet (xLook (lkBin .add g12 q10)) p24 
(oSet (xMove g24) p12 
oEnd)))))))) (kSeq (oSet (xMove q6) p2 
oEnd) kRet))))⟩
noncomputable def k145 : KFun := ⟨[rTmp (nat_lit 6) g6], (kSeq (oSet (xMove q16) p6 
oEnd) (kSeq (oSet (xMove g0) p8 
(oSet (xMove g1) p9 
(oSet (xMove g2) p10 
(oSet (xMove g0) p11 
(oSet (xLook (lkLen .sl g11)) p12 
(oSet (xLook (lkSliceSl (nat_lit 2) g8 (some g9) (some g10) (some g12))) p13 
oEnd)))))) (kSeq (kSeq (oSet (xMove g1) p14 
(oSet (xMove g2) p15 
(oSet (xLook (lkEq false .int g14 g15)) p16 
oEnd))) (kCond g16 (kSeq (oSet (xMove g0) p17 
(oSet (xMove g17) p6 
oEnd)) kRet) kSkip)) (kSeq (oSet (xMove g0) p18 
(oSet (xLook (lkLen .sl g18)) p19 
(oSet (xMove g19) p7 
oEnd))) (kSeq (kDraw 
(dLook (nat_lit 0) [] [] (lkMove g0) p20 
(dLook (nat_lit 1) [] [] (lkMove g1) p21 
(dLook (nat_lit 2) [] [] (lkSliceSl (nat_lit 2) g20 none (some g21) none) p22 
(dLook (nat_lit 3) [] [] (lkMove g0) p23 
(dLook (nat_lit 4) [] [] (lkMove g2) p24 
(dLook (nat_lit 5) [] [] (lkSliceSl (nat_lit 2) g23 (some g24) none none) p25 
(dTurn (nat_lit 6) [] [] true (xTurn (tnAppend (nat_lit 2) g22 g25)) p26 
(dLook (nat_lit 7) [] [(nat_lit 6)] (lkMove g26) p0 (dEnd [(nat_lit 20), (nat_lit 21), (nat_lit 22), (nat_lit 23), (nat_lit 24), (nat_lit 25), (nat_lit 26), (nat_lit 0)])))))))))) (kSeq (oSet (xMove g0) p27 
(oSet (xMove g0) p28 
(oSet (xLook (lkLen .sl g28)) p29 
(oSet (xMove g7) p30 
(oSet (xLook (lkSliceSl (nat_lit 2) g27 (some g29) (some g30) none)) p31 
(oDo (xTurn (tnClear q67 g31)) 
oEnd)))))) (kSeq (oSet (xMove g0) p32 
(oSet (xMove g32) p6 
oEnd)) kRet)))))))⟩
noncomputable def k146 : KFun := ⟨[rTmp (nat_lit 2) g2], (kSeq (oSet (xMove q16) p2 
oEnd) (kSeq (kSeq (oSet (xMove g0) p3 
(oSet (xLook (lkEq false .slice g3 q16)) p4 
oEnd)) (kCond g4 (kSeq (oSet (xMove q16) p2 
oEnd) kRet) kSkip)) (kSeq (oSet (xTurn (tnBuildSlice [] [] (nat_lit 0))) p5 
(oSet (xMove g0) p6 
(oSet (xTurn (tnAppend (nat_lit 2) g5 g6)) p7 
(oSet (xMove g7) p2 
oEnd)))) kRet)))⟩
def q289 : OpdF := kC (.func (.func (nat_lit 199)) ⟨[]⟩ ⟨[]⟩)
def q290 : OpdF := kC (.func (.func (nat_lit 200)) ⟨[]⟩ ⟨[]⟩)
noncomputable def k147 : KFun := ⟨[rTmp (nat_lit 6) g6], (kSeq (oSet (xMove q16) p6 
oEnd) (kSeq (oSet (xMove g0) p10 
(oSet (xMove g1) p11 
(oSet (xLook (lkSliceSl (nat_lit 2) g10 (some g11) none none)) p12 
oEnd))) (kSeq (oSet (xMove g2) p13 
(oSet (xLook (lkLen .sl g13)) p14 
(oSet (xMove g14) p7 
oEnd))) (kSeq (kSeq (oSet (xMove g7) p15 
(oSet (xLook (lkEq false .int g15 q6)) p16 
oEnd)) (kCond g16 (kSeq (oSet (xMove g0) p17 
(oSet (xMove g17) p6 
oEnd)) kRet) kSkip)) (kSeq (oSet (xMove g0) p18 
(oSet (xLook (lkLen .sl g18)) p19 
(oSet (xMove g19) p8 
oEnd))) (kSeq (kSeq (oSet (xMove g1) p20 
(oSet (xMove g8) p21 
(oSet (xLook (lkEq false .int g20 g21)) p22 
oEnd))) (kCond g22 (kSeq (oSet (xMove g0) p23 
(oSet (xMove g2) p24 
(oSet (xTurn (tnAppend (nat_lit 2) g23 g24)) p25 
(oSet (xMove g25) p6 
oEnd)))) kRet) kSkip)) (kSeq (kSeq (oSet (xMove g8) p26 
(oSet (xMove g7) p27 
(oSet (xLook (lkBin .add g26 g27)) p28 
(oSet (xMove g0) p29 
(oSet (xLook (lkCap g29)) p30 
(oSet (xLook (lkBin .gtr g28 g30)) p31 
oEnd)))))) (kCond g31 (kSeq (oSet (xMove g0) p32 
(oSet (xMove g1) p33 
(oSet (xLook (lkSliceSl (nat_lit 2) g32 none (some g33) none)) p34 
(oSet (xMove g8) p35 
(oSet (xMove g7) p36 
(oSet (xLook (lkBin .add g35 g36)) p37 
(oSet (xMove g1) p38 
(oSet (xLook (lkBin .sub g37 g38)) p39 
(oSet (xTurn (tnAppendZ q67 g34 g39)) p40 
(oSet (xMove g40) p9 
oEnd)))))))))) (kSeq (oSet (xMove g9) p41 
(oSet (xMove g1) p42 
(oSet (xLook (lkSliceSl (nat_lit 2) g41 (some g42) none none)) p43 
(oSet (xMove g2) p44 
(oSet (xTurn (tnCopy (nat_lit 2) g43 g44)) p45 
oEnd))))) (kSeq (kDraw 
(dLook (nat_lit 0) [] [] (lkMove g9) p46 
(dLook (nat_lit 1) [] [] (lkMove g1) p47 
(dLook (nat_lit 2) [] [] (lkMove g7) p48 
(dLook (nat_lit 3) [] [] (lkBin .add g47 g48) p49 
(dLook (nat_lit 4) [] [] (lkSliceSl (nat_lit 2) g46 (some g49) none none) p50 
(dLook (nat_lit 5) [] [] (lkMove g0) p51 
(dLook (nat_lit 6) [] [] (lkMove g1) p52 
(dLook (nat_lit 7) [] [] (lkSliceSl (nat_lit 2) g51 (some g52) none none) p53 
(dTurn (nat_lit 8) [] [] true (xTurn (tnCopy (nat_lit 2) g50 g53)) p54 (dEnd [(nat_lit 46), (nat_lit 47), (nat_lit 48), (nat_lit 49), (nat_lit 50), (nat_lit 51), (nat_lit 52), (nat_lit 53), (nat_lit 54)]))))))))))) (kSeq (oSet (xMove g9) p55 
(oSet (xMove g55) p6 
oEnd)) kRet)))) kSkip)) (kSeq (oSet (xMove g0) p56 
(oSet (xMove g8) p57 
(oSet (xMove g7) p58 
(oSet (xLook (lkBin .add g57 g58)) p59 
(oSet (xLook (lkSliceSl (nat_lit 2) g56 none (some g59) none)) p60 
(oSet (xMove g60) p0 
oEnd)))))) (kSeq (kSeq (oSet (xMove g2) p61 
(oSet (xMove g0) p62 
(oSet (xMove g1) p63 
(oSet (xMove g7) p64 
(oSet (xLook (lkBin .add g63 g64)) p65 
(oSet (xLook (lkSliceSl (nat_lit 2) g62 (some g65) none none)) p66 
(oSet (xCall q289 [g61, g66]) p67 
(oSet (xLook (lkUn .not g67)) p68 
oEnd)))))))) (kCond g68 (kSeq (kDraw 
(dLook (nat_lit 0) [] [] (lkMove g0) p69 
(dLook (nat_lit 1) [] [] (lkMove g1) p70 
(dLook (nat_lit 2) [] [] (lkMove g7) p71 
(dLook (nat_lit 3) [] [] (lkBin .add g70 g71) p72 
(dLook (nat_lit 4) [] [] (lkSliceSl (nat_lit 2) g69 (some g72) none none) p73 
(dLook (nat_lit 5) [] [] (lkMove g0) p74 
(dLook (nat_lit 6) [] [] (lkMove g1) p75 
(dLook (nat_lit 7) [] [] (lkSliceSl (nat_lit 2) g74 (some g75) none none) p76 
(dTurn (nat_lit 8) [] [] true (xTurn (tnCopy (nat_lit 2) g73 g76)) p77 (dEnd [(nat_lit 69), (nat_lit 70), (nat_lit 71), (nat_lit 72), (nat_lit 73), (nat_lit 74), (nat_lit 75), (nat_lit 76), (nat_lit 77)]))))))))))) (kSeq (oSet (xMove g0) p78 
(oSet (xMove g1) p79 
(oSet (xLook (lkSliceSl (nat_lit 2) g78 (some g79) none none)) p80 
(oSet (xMove g2) p81 
(oSet (xTurn (tnCopy (nat_lit 2) g80 g81)) p82 
oEnd))))) (kSeq (oSet (xMove g0) p83 
(oSet (xMove g83) p6 
oEnd)) kRet))) kSkip)) (kSeq (oSet (xMove g0) p84 
(oSet (xMove g8) p85 
(oSet (xLook (lkSliceSl (nat_lit 2) g84 (some g85) none none)) p86 
(oSet (xMove g2) p87 
(oSet (xTurn (tnCopy (nat_lit 2) g86 g87)) p88 
oEnd))))) (kSeq (oSet (xMove g0) p89 
(oSet (xMove g1) p90 
(oSet (xLook (lkSliceSl (nat_lit 2) g89 (some g90) none none)) p91 
(oSet (xMove g7) p92 
(oSet (xCall q290 [g91, g92]) p93 
oEnd))))) (kSeq (oSet (xMove g0) p94 
(oSet (xMove g94) p6 
oEnd)) kRet))))))))))))⟩
noncomputable def k148 : KFun := ⟨[rTmp (nat_lit 4) g4, rTmp (nat_lit 5) g5], (kSeq (oSet (xMove q25) p4 
(oSet (xMove q0) p5 
oEnd)) (kSeq (kSeq (oSet (xMove g0) p8 
(oSet (xCall q222 [g8]) p9 
(oSet (xLook (lkEq true .int g9 q6)) p10 
oEnd))) (kCond g10 (kSeq (oSet (xMove q25) p4 
(oSet (xMove q0) p5 
oEnd)) kRet) kSkip)) (kSeq (oSet (xMove g0) p12 
(oSet (xMove g1) p13 
(oSet (xCall q223 [g12, g13]) p14 
(oSet (xMove g14) p11 
(oSet (xLook (lkExtract (nat_lit 0) g11)) p15 
(oSet (xLook (lkExtract (nat_lit 1) g11)) p16 
(oSet (xMove g15) p6 
(oSet (xMove g16) p7 
oEnd)))))))) (kSeq (kSeq (oSet (xMove g7) p17 
(oSet (xLook (lkUn .not g17)) p18 
oEnd)) (kCond g18 (kSeq (oSet (xMove q25) p4 
(oSet (xMove q0) p5 
oEnd)) kRet) kSkip)) (kSeq (oSet (xMove g0) p19 
(oSet (xMove g6) p20 
(oSet (xLook (lkIxSl (nat_lit 2) g19 g20)) p21 
(oSet (xLook (lkFieldAddr (nat_lit 1) g21)) p22 
(oSet (xLook (lkLoad1 g22)) p23 
(oSet (xMove g23) p4 
(oSet (xMove q2) p5 
oEnd))))))) kRet)))))⟩
noncomputable def k149 : KFun := ⟨[rTmp (nat_lit 4) g4, rTmp (nat_lit 5) g5], (kSeq (oSet (xMove q16) p4 
(oSet (xMove q6) p5 
oEnd)) (kSeq (kSeq (oSet (xMove g0) p10 
(oSet (xCall q213 [g10]) p11 
(oSet (xMove g11) p6 
oEnd))) (kSeq (oSet (xMove g6) p12 
(oSet (xLook (lkEq true .int g12 q6)) p13 
oEnd)) (kCond g13 (kSeq (oSet (xMove g6) p14 
(oSet (xMove q16) p4 
(oSet (xMove g14) p5 
oEnd))) kRet) kSkip))) (kSeq (kSeq (oSet (xMove g1) p15 
(oSet (xLook (lkBin .lss g15 q6)) p16 
(oSet (xMove g16) p17 
(oSetIf (wantF g17) (xMove g1) p18 
(oSetIf (wantF g17) (xMove g0) p19 
(oSetIf (wantF g17) (xLook (lkLen .sl g19)) p20 
(oSetIf (wantF g17) (xLook (lkBin .gtr g18 g20)) p21 
(oSet (xLook (lkPick g17 q2 g21)) p22 
oEnd)))))))) (kCond g22 (kSeq (oSet (xMove q16) p4 
(oSet (xMove q81) p5 
oEnd)) kRet) kSkip)) (kSeq (oSet (xMove g0) p24 
(oSet (xMove g1) p25 
(oSet (xLook (lkSliceSl (nat_lit 1) g24 none (some g25) none)) p26 
(oSet (xCall q286 [q16, g26]) p27 
(oSet (xMove g27) p23 
(oSet (xLook (lkExtract (nat_lit 0) g23)) p28 
(oSet (xLook (lkExtract (nat_lit 1) g23)) p29 
(oSet (xLook (lkExtract (nat_lit 2) g23)) p30 
(oSet (xMove g28) p7 
(oSet (xMove g29) p8 
(oSet (xMove g30) p9 
oEnd))))))))))) (kSeq (oSet (xMove g8) p31 
(oSet (xMove g9) p32 
(oSet (xMove g31) p4 
(oSet (xMove g32) p5 
oEnd)))) kRet)))))⟩
noncomputable def k150d0 : KD := 
(dLook (nat_lit 24) [] [(nat_lit 2)] (lkPick g25 q2 g38) p39 (dEnd [(nat_lit 15), (nat_lit 16), (nat_lit 17), (nat_lit 18), (nat_lit 19), (nat_lit 20), (nat_lit 21), (nat_lit 22), (nat_lit 23), (nat_lit 24), (nat_lit 25), (nat_lit 26), (nat_lit 27), (nat_lit 28), (nat_lit 29), (nat_lit 30), (nat_lit 31), (nat_lit 32), (nat_lit 33), (nat_lit 34), (nat_lit 35), (nat_lit 36), (nat_lit 37), (nat_lit 38), (nat_lit 39)]))
noncomputable def k150d1 : KD := 
(dIf [(nat_lit 2)] (wantF g25) p38 (dLook (nat_lit 23) [] [(nat_lit 2)] (lkPick g28 g37 q0) p38 k150d0) k150d0)
noncomputable def k150d2 : KD := 
(dIf [(nat_lit 2)] (wantT g28) p37 (dLook (nat_lit 22) [] [(nat_lit 2)] (lkBin .leq g30 g36) p37 k150d1) k150d1)
noncomputable def k150d3 : KD := 
(dIf [(nat_lit 2)] (wantT g28) p36 (dLook (nat_lit 21) [] [(nat_lit 2)] (lkLoad1 g35) p36 k150d2) k150d2)
noncomputable def k150d4 : KD := 
(dIf [(nat_lit 2)] (wantT g28) p35 (dLook (nat_lit 20) [] [(nat_lit 2)] (lkFieldAddr (nat_lit 0) g34) p35 k150d3) k150d3)
noncomputable def k150d5 : KD := 
(dIf [(nat_lit 2)] (wantT g28) p34 (dLook (nat_lit 19) [] [(nat_lit 2)] (lkIxSl (nat_lit 2) g31 g33) p34 k150d4) k150d4)
noncomputable def k150d6 : KD := 
(dIf [(nat_lit 2)] (wantT g28) p33 (dLook (nat_lit 18) [] [(nat_lit 2)] (lkBin .sub g32 q10) p33 k150d5) k150d5)
noncomputable def k150d7 : KD := 
(dIf [(nat_lit 2)] (wantT g28) p32 (dLook (nat_lit 17) [] [(nat_lit 2)] (lkMove g3) p32 k150d6) k150d6)
noncomputable def k150d8 : KD := 
(dIf [(nat_lit 2)] (wantT g28) p31 (dLook (nat_lit 16) [] [(nat_lit 2)] (lkMove g0) p31 k150d7) k150d7)
noncomputable def k150d9 : KD := 
(dIf [(nat_lit 2)] (wantT g28) p30 (dLook (nat_lit 15) [] [(nat_lit 2)] (lkLoad1 g29) p30 k150d8) k150d8)
noncomputable def k150d10 : KD := 
(dIf [(nat_lit 2)] (wantT g28) p29 (dLook (nat_lit 14) [] [(nat_lit 2)] (lkFieldAddr (nat_lit 0) g4) p29 k150d9) k150d9)
noncomputable def k150d11 : KD := 
(dIf [(nat_lit 2)] (wantF g25) p28 (dLook (nat_lit 13) [] [(nat_lit 2)] (lkMove g27) p28 k150d10) k150d10)
noncomputable def k150d12 : KD := 
(dIf [(nat_lit 2)] (wantF g25) p27 (dLook (nat_lit 12) [] [(nat_lit 2)] (lkBin .gtr g26 q6) p27 k150d11) k150d11)
noncomputable def k150d13 : KD := 
(dLook (nat_lit 9) [] [(nat_lit 2)] (lkPick g19 q2 g23) p24 
(dLook (nat_lit 10) [] [(nat_lit 2)] (lkMove g24) p25 
(dIf [(nat_lit 2)] (wantF g25) p26 (dLook (nat_lit 11) [] [(nat_lit 2)] (lkMove g3) p26 k150d12) k150d12)))
noncomputable def k150d14 : KD := 
(dIf [(nat_lit 2)] (wantF g19) p23 (dLook (nat_lit 8) [] [(nat_lit 2)] (lkBin .gtr g22 q62) p23 k150d13) k150d13)
noncomputable def k150d15 : KD := 
(dIf [(nat_lit 2)] (wantF g19) p22 (dLook (nat_lit 7) [] [(nat_lit 2)] (lkLen .str g21) p22 k150d14) k150d14)
noncomputable def k150d16 : KD := 
(dIf [(nat_lit 2)] (wantF g19) p21 (dLook (nat_lit 6) [] [(nat_lit 2)] (lkLoad1 g20) p21 k150d15) k150d15)
noncomputable def k150 : KFun := ⟨[rTmp (nat_lit 2) g2], (kSeq (oSet (xMove q6) p2 
oEnd) (kSeq (kSeq (oSet (xMove g0) p5 
(oSet (xLook (lkLen .sl g5)) p6 
(oSet (xLook (lkBin .gtr g6 q60)) p7 
oEnd))) (kCond g7 (kSeq (oSet (xMove q66) p2 
oEnd) kRet) kSkip)) (kSeq (kSeq (oSet (xMove g0) p8 
(oSet (xLook (lkLen .sl g8)) p9 
(oSet (xMove q6) p10 
oEnd))) (kBlock (nat_lit 0) (kLoop (kSeq (oSet (xLook (lkBin .lss g10 g9)) p11 
oEnd) (kSeq (kCond g11 kSkip (kExit (nat_lit 0))) (kSeq (kBlock (nat_lit 1) (kSeq (oSet (xMove g10) p12 
(oSet (xLook (lkIxSl (nat_lit 2) g8 g10)) p13 
(oSet (xLook (lkLoadN (nat_lit 2) g13)) p14 
(oSet (xTurn (tnAlloc q61)) p4 
(oSet (xMove g12) p3 
(oDo (xTurn (tnStore (nat_lit 2) g4 g14)) 
oEnd)))))) (kSeq (kDraw 
(dLook (nat_lit 0) [] [] (lkFieldAddr (nat_lit 0) g4) p15 
(dLook (nat_lit 1) [] [] (lkLoad1 g15) p16 
(dTurn (nat_lit 2) [] [] true (xCall q272 [g16]) p17 
(dLook (nat_lit 3) [] [(nat_lit 2)] (lkUn .not g17) p18 
(dLook (nat_lit 4) [] [(nat_lit 2)] (lkMove g18) p19 
(dIf [(nat_lit 2)] (wantF g19) p20 (dLook (nat_lit 5) [] [(nat_lit 2)] (lkFieldAddr (nat_lit 1) g4) p20 k150d16) k150d16))))))) (kCond g39 (kSeq (oSet (xMove q20) p2 
oEnd) kRet) kSkip)))) (oSet (xLook (lkBin .add g10 q10)) p40 
(oSet (xMove g40) p10 
oEnd)))))))) (kSeq (oSet (xMove q6) p2 
oEnd) kRet))))⟩
def q291 : List Value := [(.slice none (nat_lit 0) (nat_lit 0)), (.string ⟨⟨[]⟩⟩)]
def q292 : OpdF := kC (.func (.func (nat_lit 201)) ⟨[]⟩ ⟨[]⟩)
noncomputable def k151 : KFun := ⟨[rTmp (nat_lit 4) g4, rTmp (nat_lit 5) g5], (kSeq (oSet (xMove q6) p4 
(oSet (xMove q0) p5 
oEnd)) (kSeq (oSet (xMove g0) p6 
(oSet (xLook (lkLen .sl g6)) p7 
(oSet (xMove g0) p8 
(oSet (xMove g1) p9 
(oSet (xLook (lkBuild q291 [((nat_lit 0), (nat_lit 1), g8), ((nat_lit 1), (nat_lit 1), g9)])) p10 
(oSet (xLook (lkMkFunc (.func (nat_lit 202)) [g10] [])) p11 
(oSet (xCall q292 [g7, g11]) p12 
(oSet (xLook (lkExtract (nat_lit 0) g12)) p13 
(oSet (xLook (lkExtract (nat_lit 1) g12)) p14 
(oSet (xMove g13) p4 
(oSet (xMove g14) p5 
oEnd))))))))))) kRet))⟩
noncomputable def k154 : KFun := ⟨[], (kSeq (oSet (xMove g0) p4 
(oSet (xNil g4) p5 
(oSet (xLook (lkFieldAddr (nat_lit 1) g5)) p6 
(oSet (xLook (lkLoad1 g6)) p7 
(oSet (xLook (lkEq false .int g7 q6)) p8 
oEnd))))) (kCond g8 (oSet (xMove g0) p10 
(oSet (xMove g0) p11 
(oSet (xMove g0) p12 
(oSet (xNil g12) p13 
(oSet (xLook (lkFieldAddr (nat_lit 0) g13)) p14 
(oSet (xLook (lkLoad1 g14)) p15 
(oSet (xMove g1) p16 
(oSet (xCall q280 [g15, g16]) p17 
(oSet (xMove g17) p9 
(oSet (xLook (lkExtract (nat_lit 0) g9)) p18 
(oSet (xLook (lkExtract (nat_lit 1) g9)) p19 
(oSet (xNil g10) p20 
(oSet (xLook (lkFieldAddr (nat_lit 0) g20)) p21 
(oDo (xTurn (tnStore (nat_lit 1) g21 g18)) 
(oSet (xNil g11) p22 
(oSet (xLook (lkFieldAddr (nat_lit 1) g22)) p23 
(oDo (xTurn (tnStore (nat_lit 1) g23 g19)) 
oEnd))))))))))))))))) kSkip))⟩
def q294 : OpdF := kC (.func (.func (nat_lit 204)) ⟨[]⟩ ⟨[]⟩)
noncomputable def k155 : KFun := ⟨[rTmp (nat_lit 2) g2], (kSeq (oSet (xMove q16) p2 
oEnd) (kSeq (oSet (xMove g0) p3 
(oSet (xCall q294 [q16, g3]) p4 
(oSet (xMove g4) p2 
oEnd))) kRet))⟩
def q295 : OpdF := kC (.func (.func (nat_lit 206)) ⟨[]⟩ ⟨[]⟩)
def q296 : OpdF := kC (.func (.func (nat_lit 205)) ⟨[]⟩ ⟨[]⟩)
noncomputable def k156 : KFun := ⟨[], (kSeq (oSet (xMove g0) p3 
(oSet (xLook (lkLen .sl g3)) p4 
(oSet (xMove g4) p2 
oEnd))) (oSet (xMove g0) p5 
(oSet (xMove g2) p6 
(oSet (xMove g2) p7 
(oSet (xLook (lkIntTo .u64 g7)) p8 
(oSet (xCall q295 [g8]) p9 
(oSet (xCall q296 [g5, q6, g6, g9]) p10 
oEnd)))))))⟩
def q303 : OpdF := kC (.func (.func (nat_lit 212)) ⟨[]⟩ ⟨[]⟩)
noncomputable def k167 : KFun := ⟨[rTmp (nat_lit 2) g2], (kSeq (oSet (xMove q25) p2 
oEnd) (kSeq (oSet (xMove g0) p3 
(oSet (xCall q303 [g3]) p4 
(oSet (xMove g4) p2 
oEnd))) kRet))⟩
def q316 : OpdF := kC (.int .u64 (.ofNat (nat_lit 18)))
def q322 : OpdF := kC (.int .u64 (.ofNat (nat_lit 1)))
noncomputable def k177 : KFun := ⟨[rTmp (nat_lit 6) g6, rTmp (nat_lit 7) g7], (kSeq (oSet (xMove q6) p6 
(oSet (xMove q0) p7 
oEnd)) (kSeq (oSet (xMove g0) p12 
(oSet (xLook (lkLen .sl g12)) p13 
(oSet (xMove g13) p8 
oEnd))) (kSeq (oSet (xMove g8) p14 
(oSet (xMove q6) p9 
(oSet (xMove g14) p10 
oEnd))) (kSeq (kBlock (nat_lit 0) (kLoop (kSeq (kSeq (oSet (xMove g9) p15 
(oSet (xMove g10) p16 
(oSet (xLook (lkBin .lss g15 g16)) p17 
oEnd))) (kCond g17 kSkip (kExit (nat_lit 0)))) (kBlock (nat_lit 1) (kSeq (oSet (xMove g9) p18 
(oSet (xMove g10) p19 
(oSet (xLook (lkBin .add g18 g19)) p20 
(oSet (xLook (lkIntTo .u64 g20)) p21 
(oSet (xLook (lkBin .shr g21 q322)) p22 
(oSet (xLook (lkIntTo .i64 g22)) p23 
(oSet (xMove g23) p11 
oEnd))))))) (kSeq (oSet (xMove g2) p24 
(oSet (xMove g0) p25 
(oSet (xMove g11) p26 
(oSet (xLook (lkIxSl (nat_lit 2) g25 g26)) p27 
(oSet (xLook (lkLoadN (nat_lit 2) g27)) p28 
(oSet (xMove g1) p29 
(oSet (xCall g24 [g28, g29]) p30 
(oSet (xLook (lkBin .lss g30 q6)) p31 
oEnd)))))))) (kCond g31 (oSet (xMove g11) p32 
(oSet (xLook (lkBin .add g32 q10)) p33 
(oSet (xMove g33) p9 
oEnd))) (oSet (xMove g11) p34 
(oSet (xMove g34) p10 
oEnd))))))))) (kSeq (oSet (xMove g9) p35 
(oSet (xMove g9) p36 
(oSet (xMove g8) p37 
(oSet (xLook (lkBin .lss g36 g37)) p38 
(oSet (xMove g38) p39 
(oSetIf (wantT g39) (xMove g2) p40 
(oSetIf (wantT g39) (xMove g0) p41 
(oSetIf (wantT g39) (xMove g9) p42 
(oSetIf (wantT g39) (xLook (lkIxSl (nat_lit 2) g41 g42)) p43 
(oSetIf (wantT g39) (xLook (lkLoadN (nat_lit 2) g43)) p44 
(oSetIf (wantT g39) (xMove g1) p45 
(oSetIf (wantT g39) (xCall g40 [g44, g45]) p46 
(oSetIf (wantT g39) (xLook (lkEq false .int g46 q6)) p47 
(oSet (xLook (lkPick g39 g47 q0)) p48 
(oSet (xMove g35) p6 
(oSet (xMove g48) p7 
oEnd)))))))))))))))) kRet)))))⟩
noncomputable def k178 : KFun := ⟨[rTmp (nat_lit 4) g4], (kSeq (oSet (xTurn (tnBox g0)) p2 
(oSet (xMove q6) p4 
oEnd)) (kSeq (kBlock (nat_lit 0) (kSeq (oSet (xLook (lkFieldAddr (nat_lit 0) g2)) p6 
(oSet (xLook (lkLoad1 g6)) p7 
(oSet (xMove g1) p8 
(oSet (xLook (lkBin .lss g7 g8)) p9 
(oSet (xMove g9) p5 
oEnd))))) (kCond g5 (kSeq (oSet (xMove q33) p4 
oEnd) kRet) (kSeq (oSet (xLook (lkFieldAddr (nat_lit 0) g2)) p11 
(oSet (xLook (lkLoad1 g11)) p12 
(oSet (xMove g1) p13 
(oSet (xLook (lkBin .gtr g12 g13)) p14 
(oSet (xMove g14) p10 
oEnd))))) (kCond g10 (kSeq (oSet (xMove q10) p4 
oEnd) kRet) kSkip))))) (kSeq (oSet (xMove q6) p4 
oEnd) kRet)))⟩
noncomputable def k179 : KFun := ⟨[rTmp (nat_lit 2) g2], (kSeq (oSet (xMove q6) p2 
oEnd) (kSeq (kSeq (oSet (xMove g0) p3 
(oSet (xLook (lkEq false .ptr g3 q5)) p4 
(oSet (xMove g4) p5 
(oSetIf (wantF g5) (xMove g0) p6 
(oSetIf (wantF g5) (xNil g6) p7 
(oSetIf (wantF g5) (xLook (lkFieldAddr (nat_lit 0) g7)) p8 
(oSetIf (wantF g5) (xCall q128 [g8]) p9 
(oSet (xLook (lkPick g5 q2 g9)) p10 
oEnd)))))))) (kCond g10 (kSeq (oSet (xMove q6) p2 
oEnd) kRet) kSkip)) (kSeq (oSet (xMove g0) p11 
(oSet (xNil g11) p12 
(oSet (xLook (lkFieldAddr (nat_lit 4) g12)) p13 
(oSet (xLook (lkLoad1 g13)) p14 
(oSet (xMove g14) p2 
oEnd))))) kRet)))⟩
noncomputable def k180 : KFun := ⟨[rCellN (nat_lit 4) g4 (nat_lit 6), rTmp (nat_lit 5) g5, rCellN (nat_lit 6) g6 (nat_lit 2)], (kSeq (oSet (xTurn (tnAlloc q26)) p4 
(oSet (xMove q6) p5 
(oSet (xTurn (tnAlloc q32)) p6 
oEnd))) (kSeq (kSeq (oSet (xMove g1) p12 
(oSet (xLook (lkBin .lss g12 q6)) p13 
(oSet (xMove g13) p14 
(oSetIf (wantF g14) (xMove g1) p15 
(oSetIf (wantF g14) (xMove g0) p16 
(oSetIf (wantF g14) (xLook (lkLen .sl g16)) p17 
(oSetIf (wantF g14) (xLook (lkBin .gtr g15 g17)) p18 
(oSet (xLook (lkPick g14 q2 g18)) p19 
oEnd)))))))) (kCond g19 (kSeq (oSet (xLook (lkBuild q26 [])) p20 
(oSet (xLook (lkBuild q32 [((nat_lit 0), (nat_lit 1), q81)])) p21 
(oDo (xTurn (tnStore (nat_lit 6) g4 g20)) 
(oSet (xMove q6) p5 
(oDo (xTurn (tnStore (nat_lit 2) g6 g21)) 
oEnd))))) kRet) kSkip)) (kSeq (oSet (xMove g0) p22 
(oSet (xMove g1) p23 
(oSet (xLook (lkSliceSl (nat_lit 1) g22 (some g23) none none)) p24 
(oSet (xCall q54 [g24]) p25 
(oSet (xMove g25) p7 
oEnd))))) (kSeq (oSet (xMove g7) p26 
(oSet (xCall q55 [g26, q10, q124]) p27 
(oSet (xLook (lkBuild q26 [((nat_lit 0), (nat_lit 1), g27)])) p28 
(oSet (xTurn (tnAlloc q26)) p8 
(oDo (xTurn (tnStore (nat_lit 6) g8 g28)) 
oEnd))))) (kSeq (kSeq (oSet (xLook (lkFieldAddr (nat_lit 0) g8)) p29 
(oSet (xLook (lkLoad1 g29)) p30 
(oSet (xCall q91 [g30]) p31 
(oSet (xTurn (tnRangeStr g31)) p32 
oEnd)))) (kBlock (nat_lit 0) (kLoop (kSeq (oSet (xTurn (tnNextStr g32)) p33 
(oSet (xLook (lkExtract (nat_lit 0) g33)) p34 
oEnd)) (kSeq (kCond g34 kSkip (kExit (nat_lit 0))) (kBlock (nat_lit 1) (kSeq (oSet (xLook (lkExtract (nat_lit 2) g33)) p35 
(oSet (xMove g35) p10 
oEnd)) (kSeq (oSet (xMove g10) p36 
oEnd) (kBlock (nat_lit 2) (kSeq (oSet (xLook (lkEq false .int g36 q92)) p43 
(oSet (xMove g43) p42 
oEnd)) (kCond g42 (oSet (xMove g7) p44 
(oSet (xCall q59 [g44, q62]) p45 
(oSet (xLook (lkFieldAddr (nat_lit 5) g8)) p46 
(oDo (xTurn (tnStore (nat_lit 1) g46 g45)) 
oEnd)))) (kSeq (oSet (xLook (lkEq false .int g36 q96)) p48 
(oSet (xMove g48) p47 
oEnd)) (kCond g47 (oSet (xMove g7) p49 
(oSet (xLook (lkFieldAddr (nat_lit 0) g8)) p50 
(oSet (xLook (lkLoad1 g50)) p51 
(oSet (xCall q126 [g51]) p52 
(oSet (xCall q55 [g49, q10, g52]) p53 
(oSet (xLook (lkFieldAddr (nat_lit 4) g8)) p54 
(oDo (xTurn (tnStore (nat_lit 1) g54 g53)) 
oEnd))))))) (oSet (xMove g10) p37 
(oSet (xCall q93 [g8, g37]) p38 
(oSet (xMove g7) p39 
(oSet (xCall q55 [g39, q6, q119]) p40 
(oSet (xNil g38) p41 
(oDo (xTurn (tnStore (nat_lit 1) g41 g40)) 
oEnd))))))))))))))))))) (kSeq (kSeq (oSet (xMove g7) p55 
(oSet (xCall q112 [g55]) p56 
(oSet (xTurn (tnAlloc q32)) p11 
(oDo (xTurn (tnStore (nat_lit 2) g11 g56)) 
oEnd)))) (kSeq (oSet (xLook (lkFieldAddr (nat_lit 0) g11)) p57 
(oSet (xLook (lkLoad1 g57)) p58 
(oSet (xLook (lkEq true .int g58 q6)) p59 
oEnd))) (kCond g59 (kSeq (kDraw 
(dLook (nat_lit 0) [] [] (lkBuild q26 []) p60 
(dLook (nat_lit 1) [] [] (lkFieldAddr (nat_lit 0) g11) p61 
(dLook (nat_lit 2) [] [] (lkLoad1 g61) p62 
(dLook (nat_lit 3) [] [] (lkMove g1) p63 
(dLook (nat_lit 4) [] [] (lkFieldAddr (nat_lit 1) g11) p64 
(dLook (nat_lit 5) [] [] (lkLoad1 g64) p65 
(dLook (nat_lit 6) [] [] (lkBin .add g63 g65) p66 
(dLook (nat_lit 7) [] [] (lkBuild q32 [((nat_lit 0), (nat_lit 1), g62), ((nat_lit 1), (nat_lit 1), g66)]) p67 
(dTurn (nat_lit 8) [(nat_lit 2), (nat_lit 5)] [] true (xTurn (tnStore (nat_lit 6) g4 g60)) noDst 
(dLook (nat_lit 9) [] [(nat_lit 8)] (lkMove q6) p5 
(dTurn (nat_lit 10) [] [(nat_lit 8)] true (xTurn (tnStore (nat_lit 2) g6 g67)) noDst (dEnd [(nat_lit 60), (nat_lit 61), (nat_lit 62), (nat_lit 63), (nat_lit 64), (nat_lit 65), (nat_lit 66), (nat_lit 67), (nat_lit 5)]))))))))))))) kRet) kSkip))) (kSeq (kDraw 
(dLook (nat_lit 0) [] [] (lkLoadN (nat_lit 6) g8) p68 
(dLook (nat_lit 1) [] [] (lkMove g1) p69 
(dLook (nat_lit 2) [] [] (lkMove g7) p70 
(dTurn (nat_lit 3) [(nat_lit 0)] [] true (xCall q264 [g70]) p71 
(dLook (nat_lit 4) [] [(nat_lit 3)] (lkBin .add g69 g71) p72 
(dLook (nat_lit 5) [] [] (lkBuild q32 []) p73 
(dTurn (nat_lit 6) [] [(nat_lit 3)] true (xTurn (tnStore (nat_lit 6) g4 g68)) noDst 
(dLook (nat_lit 7) [] [(nat_lit 3), (nat_lit 6)] (lkMove g72) p5 
(dTurn (nat_lit 8) [] [(nat_lit 3), (nat_lit 6)] true (xTurn (tnStore (nat_lit 2) g6 g73)) noDst (dEnd [(nat_lit 68), (nat_lit 69), (nat_lit 70), (nat_lit 71), (nat_lit 72), (nat_lit 73), (nat_lit 5)]))))))))))) kRet)))))))⟩
noncomputable def k184 : KFun := ⟨[rTmp (nat_lit 2) g2], (kSeq (oSet (xMove q0) p2 
oEnd) (kSeq (oSet (xMove g0) p3 
(oSet (xLook (lkEq true .str g3 q25)) p4 
(oSet (xMove g4) p5 
(oSetIf (wantT g5) (xMove g0) p6 
(oSetIf (wantT g5) (xLook (lkLen .str g6)) p7 
(oSetIf (wantT g5) (xLook (lkBin .leq g7 q244)) p8 
(oSet (xLook (lkPick g5 g8 q0)) p9 
(oSet (xMove g9) p2 
oEnd)))))))) kRet))⟩
def q323 : OpdF := kC (.func (.func (nat_lit 219)) ⟨[]⟩ ⟨[]⟩)
def q324 : List Value := [.nilFunc, .nilFunc, .nilFunc, .nilFunc, .nilFunc, .nilFunc, .nilFunc, .nilFunc, .nilFunc, .nilFunc, .nilFunc, .nilFunc, .nilFunc, .nilFunc, .nilFunc, .nilFunc]
def q325 : OpdF := kC (.func (.func (nat_lit 220)) ⟨[]⟩ ⟨[]⟩)
noncomputable def k186 : KFun := ⟨[], (kSeq (oSet (xTurn (tnBox g0)) p2 
oEnd) (kSeq (oSet (xLook (lkMkFunc (.func (nat_lit 218)) [] [g2])) p6 
(oDo (xDefer g6 []) 
oEnd)) (kSeq (oSet (xCall q323 []) p7 
(oSet (xTurn (tnAlloc q324)) p4 
(oDo (xTurn (tnStore (nat_lit 16) g4 g7)) 
oEnd))) (kBlock (nat_lit 0) (kLoop (kSeq (kSeq (oSet (xLook (lkLoad1 g2)) p8 
(oSet (xNil g8) p9 
(oSet (xLook (lkFieldAddr (nat_lit 10) g9)) p10 
(oSet (xLook (lkLoad1 g10)) p11 
(oSet (xMove g1) p12 
(oSet (xLook (lkLen .sl g12)) p13 
(oSet (xLook (lkBin .lss g11 g13)) p14 
oEnd))))))) (kCond g14 kSkip (kExit (nat_lit 0)))) (kBlock (nat_lit 1) (kSeq (oSet (xLook (lkLoad1 g2)) p15 
(oSet (xCall q325 [g15]) p16 
oEnd)) (kSeq (oSet (xMove g1) p17 
(oSet (xLook (lkLoad1 g2)) p18 
(oSet (xNil g18) p19 
(oSet (xLook (lkFieldAddr (nat_lit 10) g19)) p20 
(oSet (xLook (lkLoad1 g20)) p21 
(oSet (xLook (lkIxSl (nat_lit 6) g17 g21)) p22 
(oSet (xLook (lkLoadN (nat_lit 6) g22)) p23 
(oSet (xTurn (tnAlloc q26)) p5 
(oDo (xTurn (tnStore (nat_lit 6) g5 g23)) 
oEnd))))))))) (kSeq (oSet (xLook (lkLoad1 g2)) p24 
(oSet (xNil g24) p25 
(oSet (xLook (lkFieldAddr (nat_lit 10) g25)) p26 
(oSet (xLook (lkLoad1 g26)) p27 
(oSet (xLook (lkBin .add g27 q10)) p28 
(oSet (xNil g24) p29 
(oSet (xLook (lkFieldAddr (nat_lit 10) g29)) p30 
(oDo (xTurn (tnStore (nat_lit 1) g30 g28)) 
oEnd)))))))) (kDraw 
(dLook (nat_lit 0) [] [] (lkFieldAddr (nat_lit 0) g5) p31 
(dLook (nat_lit 1) [] [] (lkLoad1 g31) p32 
(dLook (nat_lit 2) [] [] (lkIxArr (nat_lit 16) (nat_lit 1) g4 g32) p33 
(dLook (nat_lit 3) [] [] (lkLoad1 g33) p34 
(dLook (nat_lit 4) [] [] (lkLoad1 g2) p35 
(dLook (nat_lit 5) [] [] (lkLoadN (nat_lit 6) g5) p36 
(dTurn (nat_lit 6) [] [] true (xCall g34 [g35, g36]) p37 (dEnd [(nat_lit 31), (nat_lit 32), (nat_lit 33), (nat_lit 34), (nat_lit 35), (nat_lit 36), (nat_lit 37)])))))))))))))))))))⟩
def q326 : OpdF := kC (.func (.func (nat_lit 221)) ⟨[]⟩ ⟨[]⟩)
noncomputable def k187 : KFun := ⟨[rTmp (nat_lit 2) g2], (kSeq (oSet (xMove q16) p2 
oEnd) (kSeq (oSet (xTurn (tnMkMap (.one .str))) p6 
(oSet (xMove g6) p3 
oEnd)) (kSeq (kSeq (oSet (xMove g0) p7 
(oSet (xLook (lkLen .sl g7)) p8 
(oSet (xMove q6) p9 
oEnd))) (kBlock (nat_lit 0) (kLoop (kSeq (oSet (xLook (lkBin .lss g9 g8)) p10 
oEnd) (kSeq (kCond g10 kSkip (kExit (nat_lit 0))) (kSeq (kBlock (nat_lit 1) (kSeq (oSet (xLook (lkIxSl (nat_lit 1) g7 g9)) p11 
(oSet (xLook (lkLoad1 g11)) p12 
(oSet (xMove g12) p5 
oEnd))) (oSet (xMove g3) p13 
(oSet (xMove g5) p14 
(oSet (xLook (lkBuild [] [])) p15 
(oDo (xTurn (tnMapUpdate (.one .str) g13 g14 g15)) 
oEnd)))))) (oSet (xLook (lkBin .add g9 q10)) p16 
(oSet (xMove g16) p9 
oEnd)))))))) (kSeq (oSet (xMove g3) p17 
(oSet (xCall q326 [g17]) p18 
(oSet (xCall q187 [g18]) p19 
(oSet (xMove g19) p2 
oEnd)))) kRet))))⟩
def q327 : OpdF := kC (.func (.func (nat_lit 222)) ⟨[]⟩ ⟨[]⟩)
noncomputable def k188 : KFun := ⟨[rTmp (nat_lit 2) g2], (kSeq (oSet (xMove q16) p2 
oEnd) (kSeq (oSet (xMove g0) p3 
(oSet (xCall q327 [g3]) p4 
(oSet (xMove g4) p2 
oEnd))) kRet))⟩
def q328 : OpdF := kC (.func (.func (nat_lit 223)) ⟨[]⟩ ⟨[]⟩)
noncomputable def k189 : KFun := ⟨[rTmp (nat_lit 2) g2], (kSeq (oSet (xMove q16) p2 
oEnd) (kSeq (oSet (xMove q16) p3 
oEnd) (kSeq (kSeq (oSet (xMove g0) p6 
(oSet (xNil g6) p7 
(oSet (xLook (lkFieldAddr (nat_lit 0) g7)) p8 
(oSet (xLook (lkLoad1 g8)) p9 
(oSet (xCall q328 [g9]) p10 
(oSet (xCall q187 [g10]) p11 
(oSet (xLook (lkLen .sl g11)) p12 
(oSet (xMove q6) p13 
oEnd)))))))) (kBlock (nat_lit 0) (kLoop (kSeq (oSet (xLook (lkBin .lss g13 g12)) p14 
oEnd) (kSeq (kCond g14 kSkip (kExit (nat_lit 0))) (kSeq (kBlock (nat_lit 1) (kSeq (oSet (xLook (lkIxSl (nat_lit 1) g11 g13)) p15 
(oSet (xLook (lkLoad1 g15)) p16 
(oSet (xMove g16) p5 
oEnd))) (oSet (xMove g3) p17 
(oSet (xMove g0) p18 
(oSet (xNil g18) p19 
(oSet (xLook (lkFieldAddr (nat_lit 0) g19)) p20 
(oSet (xLook (lkLoad1 g20)) p21 
(oSet (xMove g5) p22 
(oSet (xLook (lkLookup (.one .str) (.agg ⟨[(.string ⟨⟨[]⟩⟩), (.string ⟨⟨[]⟩⟩), (.bool false)]⟩) false g21 g22)) p23 
(oSet (xTurn (tnBuildSlice q63 [((nat_lit 0), (nat_lit 3), g23)] (nat_lit 1))) p24 
(oSet (xTurn (tnAppend (nat_lit 3) g17 g24)) p25 
(oSet (xMove g25) p3 
oEnd)))))))))))) (oSet (xLook (lkBin .add g13 q10)) p26 
(oSet (xMove g26) p13 
oEnd)))))))) (kSeq (oSet (xMove g3) p27 
(oSet (xMove g27) p2 
oEnd)) kRet))))⟩
def q329 : OpdF := kC (.func (.func (nat_lit 224)) ⟨[]⟩ ⟨[]⟩)
def q330 : OpdF := kC (.func (.func (nat_lit 225)) ⟨[]⟩ ⟨[]⟩)
def q331 : OpdF := kC (.func (.func (nat_lit 226)) ⟨[]⟩ ⟨[]⟩)
noncomputable def k190 : KFun := ⟨[rTmp (nat_lit 4) g4, rTmp (nat_lit 5) g5], (kSeq (oSet (xMove q16) p4 
(oSet (xMove q6) p5 
oEnd)) (kSeq (kSeq (oSet (xMove g0) p12 
(oSet (xCall q222 [g12]) p13 
(oSet (xMove g13) p6 
oEnd))) (kSeq (oSet (xMove g6) p14 
(oSet (xLook (lkEq true .int g14 q6)) p15 
oEnd)) (kCond g15 (kSeq (oSet (xMove g6) p16 
(oSet (xMove q16) p4 
(oSet (xMove g16) p5 
oEnd))) kRet) kSkip))) (kSeq (oSet (xTurn (tnMkMap (.one .str))) p17 
(oSet (xLook (lkBuild q233 [((nat_lit 0), (nat_lit 1), g17)])) p18 
(oSet (xTurn (tnAlloc q233)) p7 
(oDo (xTurn (tnStore (nat_lit 1) g7 g18)) 
oEnd)))) (kSeq (kSeq (oSet (xMove g0) p19 
(oSet (xLook (lkLen .sl g19)) p20 
(oSet (xMove q6) p21 
oEnd))) (kBlock (nat_lit 0) (kLoop (kSeq (oSet (xLook (lkBin .lss g21 g20)) p22 
oEnd) (kSeq (kCond g22 kSkip (kExit (nat_lit 0))) (kSeq (kBlock (nat_lit 1) (kSeq (oSet (xLook (lkIxSl (nat_lit 2) g19 g21)) p23 
(oSet (xLook (lkLoadN (nat_lit 2) g23)) p24 
(oSet (xTurn (tnAlloc q61)) p9 
(oDo (xTurn (tnStore (nat_lit 2) g9 g24)) 
oEnd)))) (oSet (xLook (lkFieldAddr (nat_lit 0) g7)) p25 
(oSet (xLook (lkLoad1 g25)) p26 
(oSet (xLook (lkFieldAddr (nat_lit 0) g9)) p27 
(oSet (xLook (lkLoad1 g27)) p28 
(oSet (xLook (lkFieldAddr (nat_lit 1) g9)) p29 
(oSet (xLook (lkLoad1 g29)) p30 
(oSet (xLook (lkBuild q19 [((nat_lit 0), (nat_lit 1), g30)])) p31 
(oDo (xTurn (tnMapUpdate (.one .str) g26 g28 g31)) 
oEnd)))))))))) (oSet (xLook (lkBin .add g21 q10)) p32 
(oSet (xMove g32) p21 
oEnd)))))))) (kSeq (kSeq (oSet (xMove g1) p33 
(oSet (xLook (lkLen .sl g33)) p34 
(oSet (xMove q6) p35 
oEnd))) (kBlock (nat_lit 2) (kLoop (kSeq (oSet (xLook (lkBin .lss g35 g34)) p36 
oEnd) (kSeq (kCond g36 kSkip (kExit (nat_lit 2))) (kSeq (kBlock (nat_lit 3) (kSeq (oSet (xLook (lkIxSl (nat_lit 3) g33 g35)) p37 
(oSet (xLook (lkLoadN (nat_lit 3) g37)) p38 
(oSet (xTurn (tnAlloc q63)) p11 
(oDo (xTurn (tnStore (nat_lit 3) g11 g38)) 
oEnd)))) (kSeq (kSeq (oSet (xLook (lkLoadN (nat_lit 3) g11)) p39 
(oSet (xCall q329 [g39]) p40 
(oSet (xLook (lkUn .not g40)) p41 
oEnd))) (kCond g41 (kSeq (oSet (xMove q16) p4 
(oSet (xMove q20) p5 
oEnd)) kRet) kSkip)) (oSet (xLook (lkLoadN (nat_lit 1) g7)) p42 
(oSet (xLook (lkLoadN (nat_lit 3) g11)) p43 
(oSet (xCall q330 [g42, g43]) p44 
oEnd)))))) (oSet (xLook (lkBin .add g35 q10)) p45 
(oSet (xMove g45) p35 
oEnd)))))))) (kSeq (kSeq (oSet (xLook (lkFieldAddr (nat_lit 0) g7)) p46 
(oSet (xLook (lkLoad1 g46)) p47 
(oSet (xLook (lkLen .map g47)) p48 
(oSet (xLook (lkBin .gtr g48 q60)) p49 
oEnd)))) (kCond g49 (kSeq (oSet (xMove q16) p4 
(oSet (xMove q66) p5 
oEnd)) kRet) kSkip)) (kSeq (oSet (xLook (lkLoadN (nat_lit 1) g7)) p50 
(oSet (xCall q331 [g50]) p51 
(oSet (xMove g51) p4 
(oSet (xMove q6) p5 
oEnd)))) kRet)))))))⟩
noncomputable def k192 : KFun := ⟨[rTmp (nat_lit 2) g2], (kSeq (oSet (xMove q16) p2 
oEnd) (kSeq (kSeq (oSet (xMove g0) p3 
(oSet (xLook (lkEq false .slice g3 q16)) p4 
oEnd)) (kCond g4 (kSeq (oSet (xMove q16) p2 
oEnd) kRet) kSkip)) (kSeq (oSet (xTurn (tnBuildSlice [] [] (nat_lit 0))) p5 
(oSet (xMove g0) p6 
(oSet (xTurn (tnAppend (nat_lit 2) g5 g6)) p7 
(oSet (xMove g7) p2 
oEnd)))) kRet)))⟩
def q333 : OpdF := kC (.func (.func (nat_lit 228)) ⟨[]⟩ ⟨[]⟩)
def q334 : CCode := (.region false [⟨none, (some (nat_lit 12)), (.alloc [(.int .i64 (.ofNat (nat_lit 0))), (.int .i64 (.ofNat (nat_lit 0))), (.slice none (nat_lit 0) (nat_lit 0)), (.slice none (nat_lit 0) (nat_lit 0)), (.slice none (nat_lit 0) (nat_lit 0))]), (nat_lit 0), [], []⟩,
⟨none, none, (.store (nat_lit 5) (.tmp (nat_lit 12)) (.tmp (nat_lit 32))), (nat_lit 1), [], []⟩])
def q335 : CCode := (.block (nat_lit 1) (.region false [⟨none, (some (nat_lit 33)), (.load1 (.tmp (nat_lit 10))), (nat_lit 0), [], []⟩,
⟨none, (some (nat_lit 34)), (.loadN (nat_lit 5) (.tmp (nat_lit 12))), (nat_lit 1), [], []⟩,
⟨none, (some (nat_lit 35)), (.buildSlice [(.int .i64 (.ofNat (nat_lit 0))), (.int .i64 (.ofNat (nat_lit 0))), (.slice none (nat_lit 0) (nat_lit 0)), (.slice none (nat_lit 0) (nat_lit 0)), (.slice none (nat_lit 0) (nat_lit 0))] [⟨(nat_lit 0), (nat_lit 5), (.tmp (nat_lit 34))⟩] (nat_lit 1)), (nat_lit 2), [], []⟩,
⟨none, (some (nat_lit 36)), (.append (nat_lit 5) (.tmp (nat_lit 33)) (.tmp (nat_lit 35))), (nat_lit 3), [], []⟩,
⟨none, none, (.store (nat_lit 1) (.tmp (nat_lit 10)) (.tmp (nat_lit 36))), (nat_lit 4), [], []⟩]))
noncomputable def k196 : KFun := ⟨[rTmp (nat_lit 4) g4, rTmp (nat_lit 5) g5, rTmp (nat_lit 6) g6], (kSeq (oSet (xMove q16) p4 
(oSet (xMove q16) p5 
(oSet (xMove q6) p6 
oEnd))) (kSeq (kSeq (oSet (xMove g1) p13 
(oSet (xCall q213 [g13]) p14 
(oSet (xMove g14) p7 
oEnd))) (kSeq (oSet (xMove g7) p15 
(oSet (xLook (lkEq true .int g15 q6)) p16 
oEnd)) (kCond g16 (kSeq (oSet (xMove g7) p17 
(oSet (xMove q16) p4 
(oSet (xMove q16) p5 
(oSet (xMove g17) p6 
oEnd)))) kRet) kSkip))) (kSeq (kSeq (oSet (xMove g0) p18 
(oSet (xCall q222 [g18]) p19 
(oSet (xMove g19) p8 
oEnd))) (kSeq (oSet (xMove g8) p20 
(oSet (xLook (lkEq true .int g20 q6)) p21 
oEnd)) (kCond g21 (kSeq (oSet (xMove g8) p22 
(oSet (xMove q16) p4 
(oSet (xMove q16) p5 
(oSet (xMove g22) p6 
oEnd)))) kRet) kSkip))) (kSeq (oSet (xMove g0) p23 
(oSet (xTurn (tnAppend (nat_lit 2) q16 g23)) p24 
(oSet (xLook (lkBuild q226 [((nat_lit 0), (nat_lit 1), g24)])) p25 
(oSet (xLook (lkBuild q226 [((nat_lit 0), (nat_lit 2), g25)])) p26 
(oSet (xTurn (tnBox g26)) p27 
(oSet (xMove g27) p9 
oEnd)))))) (kSeq (oSet (xTurn (tnAlloc q70)) p10 
oEnd) (kSeq (kSeq (oSet (xMove g9) p28 
(oSet (xMove g1) p29 
(oSet (xCall q333 [g28, g29]) p30 
oEnd))) (kBlock (nat_lit 0) (kRange g30 [(nat_lit 31), (nat_lit 32)] q334 q335))) (kSeq (kSeq (oSet (xMove g9) p37 
(oSet (xNil g37) p38 
(oSet (xLook (lkFieldAddr (nat_lit 0) g38)) p39 
(oSet (xLook (lkFieldAddr (nat_lit 1) g39)) p40 
(oSet (xLook (lkLoad1 g40)) p41 
(oSet (xLook (lkEq true .int g41 q6)) p42 
oEnd)))))) (kCond g42 (kSeq (kDraw 
(dLook (nat_lit 0) [] [] (lkMove g9) p43 
(dTurn (nat_lit 1) [] [] false (xNil g43) p44 
(dLook (nat_lit 2) [] [] (lkFieldAddr (nat_lit 0) g44) p45 
(dLook (nat_lit 3) [] [] (lkFieldAddr (nat_lit 1) g45) p46 
(dLook (nat_lit 4) [] [] (lkLoad1 g46) p47 
(dLook (nat_lit 5) [] [] (lkMove q16) p4 
(dLook (nat_lit 6) [] [] (lkMove q16) p5 
(dLook (nat_lit 7) [] [] (lkMove g47) p6 (dEnd [(nat_lit 43), (nat_lit 44), (nat_lit 45), (nat_lit 46), (nat_lit 47), (nat_lit 4), (nat_lit 5), (nat_lit 6)])))))))))) kRet) kSkip)) (kSeq (kDraw 
(dLook (nat_lit 0) [] [] (lkLoad1 g10) p48 
(dLook (nat_lit 1) [] [] (lkMove g9) p49 
(dTurn (nat_lit 2) [] [] false (xNil g49) p50 
(dLook (nat_lit 3) [] [] (lkFieldAddr (nat_lit 0) g50) p51 
(dLook (nat_lit 4) [] [] (lkFieldAddr (nat_lit 0) g51) p52 
(dLook (nat_lit 5) [] [] (lkLoad1 g52) p53 
(dLook (nat_lit 6) [] [] (lkMove g48) p4 
(dLook (nat_lit 7) [] [] (lkMove g53) p5 
(dLook (nat_lit 8) [] [] (lkMove q6) p6 (dEnd [(nat_lit 48), (nat_lit 49), (nat_lit 50), (nat_lit 51), (nat_lit 52), (nat_lit 53), (nat_lit 4), (nat_lit 5), (nat_lit 6)]))))))))))) kRet))))))))⟩
noncomputable def k201 : KFun := ⟨[rTmp (nat_lit 4) g4, rTmp (nat_lit 5) g5], (kSeq (oSet (xMove q6) p4 
(oSet (xMove q0) p5 
oEnd)) (kSeq (oSet (xMove g0) p8 
(oSet (xMove q6) p4 
(oSet (xMove g8) p6 
oEnd))) (kSeq (kBlock (nat_lit 0) (kLoop (kSeq (kSeq (oSet (xMove g4) p9 
(oSet (xMove g6) p10 
(oSet (xLook (lkBin .lss g9 g10)) p11 
oEnd))) (kCond g11 kSkip (kExit (nat_lit 0)))) (kBlock (nat_lit 1) (kSeq (oSet (xMove g4) p12 
(oSet (xMove g6) p13 
(oSet (xLook (lkBin .add g12 g13)) p14 
(oSet (xLook (lkIntTo .u64 g14)) p15 
(oSet (xLook (lkBin .shr g15 q322)) p16 
(oSet (xLook (lkIntTo .i64 g16)) p17 
(oSet (xMove g17) p7 
oEnd))))))) (kSeq (oSet (xMove g1) p18 
(oSet (xMove g7) p19 
(oSet (xCall g18 [g19]) p20 
(oSet (xLook (lkBin .gtr g20 q6)) p21 
oEnd)))) (kCond g21 (oSet (xMove g7) p22 
(oSet (xLook (lkBin .add g22 q10)) p23 
(oSet (xMove g23) p4 
oEnd))) (oSet (xMove g7) p24 
(oSet (xMove g24) p6 
oEnd))))))))) (kSeq (oSet (xMove g4) p25 
(oSet (xMove g4) p26 
(oSet (xMove g0) p27 
(oSet (xLook (lkBin .lss g26 g27)) p28 
(oSet (xMove g28) p29 
(oSetIf (wantT g29) (xMove g1) p30 
(oSetIf (wantT g29) (xMove g4) p31 
(oSetIf (wantT g29) (xCall g30 [g31]) p32 
(oSetIf (wantT g29) (xLook (lkEq false .int g32 q6)) p33 
(oSet (xLook (lkPick g29 g33 q0)) p34 
(oSet (xMove g25) p4 
(oSet (xMove g34) p5 
oEnd)))))))))))) kRet))))⟩
noncomputable def k202 : KFun := ⟨[rTmp (nat_lit 4) g4], (kSeq (oSet (xTurn (tnBox g0)) p2 
(oSet (xMove q6) p4 
oEnd)) (kSeq (kBlock (nat_lit 0) (kSeq (kDraw 
(dLook (nat_lit 0) [] [] (lkFieldAddr (nat_lit 1) g2) p6 
(dLook (nat_lit 1) [] [] (lkLoad1 g6) p7 
(dLook (nat_lit 2) [] [] (lkFieldAddr (nat_lit 0) g2) p8 
(dLook (nat_lit 3) [] [] (lkLoad1 g8) p9 
(dLook (nat_lit 4) [] [] (lkMove g1) p10 
(dLook (nat_lit 5) [] [] (lkIxSl (nat_lit 2) g9 g10) p11 
(dLook (nat_lit 6) [] [] (lkFieldAddr (nat_lit 0) g11) p12 
(dLook (nat_lit 7) [] [] (lkLoad1 g12) p13 
(dLook (nat_lit 8) [] [] (lkBin .lss g7 g13) p14 
(dLook (nat_lit 9) [] [] (lkMove g14) p5 (dEnd [(nat_lit 6), (nat_lit 7), (nat_lit 8), (nat_lit 9), (nat_lit 10), (nat_lit 11), (nat_lit 12), (nat_lit 13), (nat_lit 14), (nat_lit 5)])))))))))))) (kCond g5 (kSeq (oSet (xMove q33) p4 
oEnd) kRet) (kSeq (kDraw 
(dLook (nat_lit 0) [] [] (lkFieldAddr (nat_lit 1) g2) p16 
(dLook (nat_lit 1) [] [] (lkLoad1 g16) p17 
(dLook (nat_lit 2) [] [] (lkFieldAddr (nat_lit 0) g2) p18 
(dLook (nat_lit 3) [] [] (lkLoad1 g18) p19 
(dLook (nat_lit 4) [] [] (lkMove g1) p20 
(dLook (nat_lit 5) [] [] (lkIxSl (nat_lit 2) g19 g20) p21 
(dLook (nat_lit 6) [] [] (lkFieldAddr (nat_lit 0) g21) p22 
(dLook (nat_lit 7) [] [] (lkLoad1 g22) p23 
(dLook (nat_lit 8) [] [] (lkBin .gtr g17 g23) p24 
(dLook (nat_lit 9) [] [] (lkMove g24) p15 (dEnd [(nat_lit 16), (nat_lit 17), (nat_lit 18), (nat_lit 19), (nat_lit 20), (nat_lit 21), (nat_lit 22), (nat_lit 23), (nat_lit 24), (nat_lit 15)])))))))))))) (kCond g15 (kSeq (oSet (xMove q10) p4 
oEnd) kRet) kSkip))))) (kSeq (oSet (xMove q6) p4 
oEnd) kRet)))⟩
def q338 : CCode := (.region false [⟨none, (some (nat_lit 5)), (.move (.tmp (nat_lit 7))), (nat_lit 0), [], []⟩])
def q339 : CCode := (.block (nat_lit 1) (.region false [⟨none, (some (nat_lit 8)), (.load1 (.tmp (nat_lit 2))), (nat_lit 0), [], []⟩,
⟨none, (some (nat_lit 9)), (.move (.tmp (nat_lit 5))), (nat_lit 1), [], []⟩,
⟨none, (some (nat_lit 10)), (.buildSlice [(.string ⟨⟨[]⟩⟩)] [⟨(nat_lit 0), (nat_lit 1), (.tmp (nat_lit 9))⟩] (nat_lit 1)), (nat_lit 2), [], []⟩,
⟨none, (some (nat_lit 11)), (.append (nat_lit 1) (.tmp (nat_lit 8)) (.tmp (nat_lit 10))), (nat_lit 3), [], []⟩,
⟨none, none, (.store (nat_lit 1) (.tmp (nat_lit 2)) (.tmp (nat_lit 11))), (nat_lit 4), [], []⟩]))
noncomputable def k204 : KFun := ⟨[rTmp (nat_lit 4) g4], (kSeq (oSet (xTurn (tnBox g0)) p2 
(oSet (xMove q16) p4 
oEnd)) (kSeq (kSeq (oSet (xMove g1) p6 
oEnd) (kBlock (nat_lit 0) (kRange g6 [(nat_lit 7)] q338 q339))) (kSeq (oSet (xLook (lkLoad1 g2)) p12 
(oSet (xMove g12) p4 
oEnd)) kRet)))⟩
def q340 : OpdF := kC (.func (.func (nat_lit 231)) ⟨[]⟩ ⟨[]⟩)
def q341 : OpdF := kC (.func (.func (nat_lit 232)) ⟨[]⟩ ⟨[]⟩)
def q342 : OpdF := kC (.func (.func (nat_lit 233)) ⟨[]⟩ ⟨[]⟩)
def q343 : OpdF := kC (.func (.func (nat_lit 234)) ⟨[]⟩ ⟨[]⟩)
def q344 : OpdF := kC (.func (.func (nat_lit 235)) ⟨[]⟩ ⟨[]⟩)
def q345 : OpdF := kC (.func (.func (nat_lit 236)) ⟨[]⟩ ⟨[]⟩)
noncomputable def k205d0 : KD := 
(dLook (nat_lit 14) [] [(nat_lit 12)] (lkPick g75 g86 q0) p87 (dEnd [(nat_lit 73), (nat_lit 74), (nat_lit 75), (nat_lit 76), (nat_lit 77), (nat_lit 78), (nat_lit 79), (nat_lit 80), (nat_lit 81), (nat_lit 82), (nat_lit 83), (nat_lit 84), (nat_lit 85), (nat_lit 86), (nat_lit 87)]))
def q346 : OpdF := kC (.func (.func (nat_lit 237)) ⟨[]⟩ ⟨[]⟩)
noncomputable def k205d1 : KD := 
(dIf [(nat_lit 12)] (wantT g75) p86 (dLook (nat_lit 13) [] [(nat_lit 12)] (lkUn .not g85) p86 k205d0) k205d0)
noncomputable def k205d2 : KD := 
(dIf [] (wantT g75) p85 (dTurn (nat_lit 12) [] [] true (xCall q346 [g80, g84]) p85 k205d1) k205d1)
noncomputable def k205d3 : KD := 
(dIf [] (wantT g75) p84 (dLook (nat_lit 11) [] [] (lkLoad1 g83) p84 k205d2) k205d2)
noncomputable def k205d4 : KD := 
(dIf [] (wantT g75) p83 (dLook (nat_lit 10) [] [] (lkIxSl (nat_lit 1) g81 g82) p83 k205d3) k205d3)
noncomputable def k205d5 : KD := 
(dIf [] (wantT g75) p82 (dLook (nat_lit 9) [] [] (lkMove g11) p82 k205d4) k205d4)
noncomputable def k205d6 : KD := 
(dIf [] (wantT g75) p81 (dLook (nat_lit 8) [] [] (lkMove g0) p81 k205d5) k205d5)
noncomputable def k205d7 : KD := 
(dIf [] (wantT g75) p80 (dLook (nat_lit 7) [] [] (lkLoad1 g79) p80 k205d6) k205d6)
noncomputable def k205d8 : KD := 
(dIf [] (wantT g75) p79 (dLook (nat_lit 6) [] [] (lkIxSl (nat_lit 1) g76 g78) p79 k205d7) k205d7)
noncomputable def k205d9 : KD := 
(dIf [] (wantT g75) p78 (dLook (nat_lit 5) [] [] (lkBin .sub g77 q10) p78 k205d8) k205d8)
noncomputable def k205d10 : KD := 
(dIf [] (wantT g75) p77 (dLook (nat_lit 4) [] [] (lkMove g1) p77 k205d9) k205d9)
def q347 : OpdF := kC (.func (.func (nat_lit 238)) ⟨[]⟩ ⟨[]⟩)
def q348 : OpdF := kC (.func (.func (nat_lit 239)) ⟨[]⟩ ⟨[]⟩)
noncomputable def k205 : KFun := ⟨[], (kSeq (oSet (xMove q2) p8 
oEnd) (kSeq (oSet (xMove q2) p9 
oEnd) (kBlock (nat_lit 0) (kLoop (kBlock (nat_lit 1) (kSeq (oSet (xMove g2) p19 
(oSet (xMove g1) p20 
(oSet (xLook (lkBin .sub g19 g20)) p21 
(oSet (xMove g21) p10 
oEnd)))) (kSeq (kSeq (oSet (xMove g10) p22 
(oSet (xLook (lkBin .leq g22 q121)) p23 
oEnd)) (kCond g23 (kSeq (oSet (xMove g0) p24 
(oSet (xMove g1) p25 
(oSet (xMove g2) p26 
(oSet (xCall q340 [g24, g25, g26]) p27 
oEnd)))) kRet) kSkip)) (kSeq (kSeq (oSet (xMove g3) p28 
(oSet (xLook (lkEq false .int g28 q6)) p29 
oEnd)) (kCond g29 (kSeq (oSet (xMove g0) p30 
(oSet (xMove g1) p31 
(oSet (xMove g2) p32 
(oSet (xCall q341 [g30, g31, g32]) p33 
oEnd)))) kRet) kSkip)) (kSeq (kSeq (oSet (xMove g8) p34 
(oSet (xLook (lkUn .not g34)) p35 
oEnd)) (kCond g35 (kSeq (oSet (xMove g0) p36 
(oSet (xMove g1) p37 
(oSet (xMove g2) p38 
(oSet (xCall q342 [g36, g37, g38]) p39 
oEnd)))) (oSet (xMove g3) p40 
(oSet (xLook (lkBin .sub g40 q10)) p41 
(oSet (xMove g41) p3 
oEnd)))) kSkip)) (kSeq (oSet (xMove g0) p43 
(oSet (xMove g1) p44 
(oSet (xMove g2) p45 
(oSet (xCall q343 [g43, g44, g45]) p46 
(oSet (xMove g46) p42 
(oSet (xLook (lkExtract (nat_lit 0) g42)) p47 
(oSet (xLook (lkExtract (nat_lit 1) g42)) p48 
(oSet (xMove g47) p11 
(oSet (xMove g48) p12 
oEnd))))))))) (kSeq (kSeq (oSet (xMove g12) p49 
(oSet (xLook (lkEq false .int g49 q20)) p50 
oEnd)) (kCond g50 (kSeq (oSet (xMove g0) p51 
(oSet (xMove g1) p52 
(oSet (xMove g2) p53 
(oSet (xCall q344 [g51, g52, g53]) p54 
oEnd)))) (kSeq (oSet (xMove g2) p55 
(oSet (xLook (lkBin .sub g55 q10)) p56 
(oSet (xMove g11) p57 
(oSet (xMove g1) p58 
(oSet (xLook (lkBin .sub g57 g58)) p59 
(oSet (xLook (lkBin .sub g56 g59)) p60 
(oSet (xMove g60) p11 
oEnd))))))) (oSet (xMove q10) p12 
oEnd))) kSkip)) (kSeq (kSeq (oSet (xMove g8) p61 
(oSet (xMove g61) p62 
(oSetIf (wantT g62) (xMove g9) p63 
(oSet (xLook (lkPick g62 g63 q0)) p64 
(oSet (xMove g64) p65 
(oSetIf (wantT g65) (xMove g12) p66 
(oSetIf (wantT g65) (xLook (lkEq false .int g66 q10)) p67 
(oSet (xLook (lkPick g65 g67 q0)) p68 
oEnd)))))))) (kCond g68 (kSeq (oSet (xMove g0) p69 
(oSet (xMove g1) p70 
(oSet (xMove g2) p71 
(oSet (xCall q345 [g69, g70, g71]) p72 
oEnd)))) (kCond g72 kRet kSkip)) kSkip)) (kSeq (kSeq (kDraw 
(dLook (nat_lit 0) [] [] (lkMove g1) p73 
(dLook (nat_lit 1) [] [] (lkBin .gtr g73 q6) p74 
(dLook (nat_lit 2) [] [] (lkMove g74) p75 
(dIf [] (wantT g75) p76 (dLook (nat_lit 3) [] [] (lkMove g0) p76 k205d10) k205d10))))) (kCond g87 (kSeq (oSet (xMove g0) p88 
(oSet (xMove g1) p89 
(oSet (xMove g2) p90 
(oSet (xMove g11) p91 
(oSet (xCall q347 [g88, g89, g90, g91]) p92 
(oSet (xMove g92) p13 
oEnd)))))) (kSeq (oSet (xMove g13) p93 
(oSet (xMove g93) p1 
oEnd)) (kExit (nat_lit 1)))) kSkip)) (kSeq (oSet (xMove g0) p95 
(oSet (xMove g1) p96 
(oSet (xMove g2) p97 
(oSet (xMove g11) p98 
(oSet (xCall q348 [g95, g96, g97, g98]) p99 
(oSet (xMove g99) p94 
(oSet (xLook (lkExtract (nat_lit 0) g94)) p100 
(oSet (xLook (lkExtract (nat_lit 1) g94)) p101 
(oSet (xMove g100) p14 
(oSet (xMove g101) p15 
oEnd)))))))))) (kSeq (oSet (xMove g15) p102 
(oSet (xMove g102) p9 
oEnd)) (kSeq (oSet (xMove g14) p103 
(oSet (xMove g1) p104 
(oSet (xLook (lkBin .sub g103 g104)) p105 
(oSet (xMove g2) p106 
(oSet (xMove g14) p107 
(oSet (xLook (lkBin .sub g106 g107)) p108 
(oSet (xMove g105) p16 
(oSet (xMove g108) p17 
oEnd)))))))) (kSeq (oSet (xMove g10) p109 
(oSet (xLook (lkBin .quo g109 q35)) p110 
(oSet (xMove g110) p18 
oEnd))) (kSeq (oSet (xMove g16) p111 
(oSet (xMove g17) p112 
(oSet (xLook (lkBin .lss g111 g112)) p113 
oEnd))) (kCond g113 (kSeq (oSet (xMove g16) p114 
(oSet (xMove g18) p115 
(oSet (xLook (lkBin .geq g114 g115)) p116 
(oSet (xMove g116) p8 
oEnd)))) (kSeq (oSet (xMove g0) p117 
(oSet (xMove g1) p118 
(oSet (xMove g14) p119 
(oSet (xMove g3) p120 
(oSet (xCall q296 [g117, g118, g119, g120]) p121 
oEnd))))) (oSet (xMove g14) p122 
(oSet (xLook (lkBin .add g122 q10)) p123 
(oSet (xMove g123) p1 
oEnd))))) (kSeq (oSet (xMove g17) p124 
(oSet (xMove g18) p125 
(oSet (xLook (lkBin .geq g124 g125)) p126 
(oSet (xMove g126) p8 
oEnd)))) (kSeq (oSet (xMove g0) p127 
(oSet (xMove g14) p128 
(oSet (xLook (lkBin .add g128 q10)) p129 
(oSet (xMove g2) p130 
(oSet (xMove g3) p131 
(oSet (xCall q296 [g127, g129, g130, g131]) p132 
oEnd)))))) (oSet (xMove g14) p133 
(oSet (xMove g133) p2 
oEnd)))))))))))))))))))))))⟩
def q349 : OpdF := kC (.func (.func (nat_lit 240)) ⟨[]⟩ ⟨[]⟩)
def q350 : OpdF := kC (.func (.func (nat_lit 241)) ⟨[]⟩ ⟨[]⟩)
noncomputable def k206 : KFun := ⟨[rTmp (nat_lit 2) g2], (kSeq (oSet (xMove q6) p2 
oEnd) (kSeq (kCond q0 (kSeq (oSet (xMove g0) p3 
(oSet (xLook (lkIntTo .u32 g3)) p4 
(oSet (xCall q349 [g4]) p5 
(oSet (xMove g5) p2 
oEnd)))) kRet) kSkip) (kSeq (oSet (xMove g0) p6 
(oSet (xCall q350 [g6]) p7 
(oSet (xMove g7) p2 
oEnd))) kRet)))⟩
def q357 : OpdF := kC (.int .u64 (.ofNat (nat_lit 8)))
def q360 : OpdF := kC (.func (.func (nat_lit 246)) ⟨[]⟩ ⟨[]⟩)
noncomputable def k212 : KFun := ⟨[rTmp (nat_lit 2) g2], (kSeq (oSet (xMove q25) p2 
oEnd) (kSeq (oSet (xMove g0) p3 
(oSet (xCall q360 [g3, q103]) p4 
(oSet (xMove g4) p2 
oEnd))) kRet))⟩
noncomputable def k218 : KFun := ⟨[], (kSeq (oSet xRecover p4 
oEnd) (kBlock (nat_lit 0) (kSeq (oSet (xLook (lkEq false .ifaceNil g4 q116)) p6 
oEnd) (kCond g6 (oSet (xMove g4) p1 
oEnd) (kSeq (oSet (xLook (lkAssertT (nat_lit 317) (.agg ⟨[(.int .i64 (.ofNat (nat_lit 0)))]⟩) true g4)) p7 
(oSet (xLook (lkExtract (nat_lit 1) g7)) p8 
(oSet (xLook (lkExtract (nat_lit 0) g7)) p9 
oEnd))) (kCond g8 (kSeq (oSet (xTurn (tnAlloc q36)) p2 
(oDo (xTurn (tnStore (nat_lit 1) g2 g9)) 
oEnd)) (oSet (xLook (lkLoad1 g0)) p10 
(oSet (xLook (lkFieldAddr (nat_lit 0) g2)) p11 
(oSet (xLook (lkLoad1 g11)) p12 
(oSet (xNil g10) p13 
(oSet (xLook (lkFieldAddr (nat_lit 11) g13)) p14 
(oSet (xLook (lkFieldAddr (nat_lit 0) g14)) p15 
(oDo (xTurn (tnStore (nat_lit 1) g15 g12)) 
oEnd)))))))) (kSeq (oSet (xMove g4) p3 
oEnd) (oSet (xMove g3) p5 
(oDo (xPanic g5) 
oEnd)))))))))⟩
def q365 : OpdF := kC (.func (.func (nat_lit 248)) ⟨[]⟩ ⟨[]⟩)
def q366 : OpdF := kC (.func (.func (nat_lit 249)) ⟨[]⟩ ⟨[]⟩)
def q367 : OpdF := kC (.func (.func (nat_lit 250)) ⟨[]⟩ ⟨[]⟩)
def q368 : OpdF := kC (.func (.func (nat_lit 251)) ⟨[]⟩ ⟨[]⟩)
def q369 : OpdF := kC (.func (.func (nat_lit 252)) ⟨[]⟩ ⟨[]⟩)
def q370 : OpdF := kC (.func (.func (nat_lit 253)) ⟨[]⟩ ⟨[]⟩)
def q371 : OpdF := kC (.func (.func (nat_lit 254)) ⟨[]⟩ ⟨[]⟩)
def q372 : OpdF := kC (.func (.func (nat_lit 255)) ⟨[]⟩ ⟨[]⟩)
def q373 : OpdF := kC (.func (.func (nat_lit 256)) ⟨[]⟩ ⟨[]⟩)
def q374 : OpdF := kC (.func (.func (nat_lit 257)) ⟨[]⟩ ⟨[]⟩)
def q375 : OpdF := kC (.func (.func (nat_lit 258)) ⟨[]⟩ ⟨[]⟩)
def q376 : OpdF := kC (.func (.func (nat_lit 259)) ⟨[]⟩ ⟨[]⟩)
def q377 : OpdF := kC (.func (.func (nat_lit 260)) ⟨[]⟩ ⟨[]⟩)
def q378 : OpdF := kC (.func (.func (nat_lit 261)) ⟨[]⟩ ⟨[]⟩)
def q379 : OpdF := kC (.func (.func (nat_lit 262)) ⟨[]⟩ ⟨[]⟩)
noncomputable def k219 : KFun := ⟨[rCellN (nat_lit 0) g0 (nat_lit 16)], (kSeq (oSet (xTurn (tnAlloc q324)) p0 
oEnd) (kSeq (oSet (xLook (lkBuild q324 [((nat_lit 1), (nat_lit 1), q365), ((nat_lit 2), (nat_lit 1), q366), ((nat_lit 3), (nat_lit 1), q367), ((nat_lit 4), (nat_lit 1), q368), ((nat_lit 5), (nat_lit 1), q369), ((nat_lit 6), (nat_lit 1), q370), ((nat_lit 7), (nat_lit 1), q371), ((nat_lit 8), (nat_lit 1), q372), ((nat_lit 9), (nat_lit 1), q373), ((nat_lit 10), (nat_lit 1), q374), ((nat_lit 11), (nat_lit 1), q375), ((nat_lit 12), (nat_lit 1), q376), ((nat_lit 13), (nat_lit 1), q377), ((nat_lit 14), (nat_lit 1), q378), ((nat_lit 15), (nat_lit 1), q379)])) p1 
(oDo (xTurn (tnStore (nat_lit 16) g0 g1)) 
oEnd)) kRet))⟩
noncomputable def k220 : KFun := ⟨[], (kSeq (kSeq (oSet (xMove g0) p2 
(oSet (xNil g2) p3 
(oSet (xLook (lkFieldAddr (nat_lit 11) g3)) p4 
(oSet (xLook (lkFieldAddr (nat_lit 1) g4)) p5 
(oSet (xLook (lkLoad1 g5)) p6 
(oSet (xLook (lkEq false .int g6 q268)) p7 
oEnd)))))) (kCond g7 (oSet (xLook (lkBuild q36 [((nat_lit 0), (nat_lit 1), q20)])) p8 
(oSet (xLook (lkMkIface (nat_lit 317) g8)) p9 
(oDo (xPanic g9) 
oEnd))) kSkip)) (oSet (xMove g0) p10 
(oSet (xNil g10) p11 
(oSet (xLook (lkFieldAddr (nat_lit 11) g11)) p12 
(oSet (xLook (lkFieldAddr (nat_lit 1) g12)) p13 
(oSet (xLook (lkLoad1 g13)) p14 
(oSet (xLook (lkBin .add g14 q10)) p15 
(oSet (xNil g10) p16 
(oSet (xLook (lkFieldAddr (nat_lit 11) g16)) p17 
(oSet (xLook (lkFieldAddr (nat_lit 1) g17)) p18 
(oDo (xTurn (tnStore (nat_lit 1) g18 g15)) 
oEnd)))))))))))⟩
noncomputable def k221 : KFun := ⟨[rTmp (nat_lit 2) g2], (kSeq (oSet (xTurn (tnBox g0)) p1 
(oSet (xMove q230) p2 
oEnd)) (kSeq (oSet (xLook (lkMkFunc (.func (nat_lit 263)) [] [g1])) p3 
(oSet (xMove g3) p2 
oEnd)) kRet))⟩
def q380 : OpdF := kC (.func (.func (nat_lit 264)) ⟨[]⟩ ⟨[]⟩)
def q381 : OpdF := kC (.func (.func (nat_lit 265)) ⟨[]⟩ ⟨[]⟩)
def q382 : OpdF := kC (.func (.func (nat_lit 266)) ⟨[]⟩ ⟨[]⟩)
def q383 : OpdF := kC (.func (.func (nat_lit 267)) ⟨[]⟩ ⟨[]⟩)
noncomputable def k222d0 : KD := 
(dLook (nat_lit 21) [] [] (lkPick g23 g41 q0) p42 (dEnd [(nat_lit 21), (nat_lit 22), (nat_lit 23), (nat_lit 24), (nat_lit 25), (nat_lit 26), (nat_lit 27), (nat_lit 28), (nat_lit 29), (nat_lit 30), (nat_lit 31), (nat_lit 32), (nat_lit 33), (nat_lit 34), (nat_lit 35), (nat_lit 36), (nat_lit 37), (nat_lit 38), (nat_lit 39), (nat_lit 40), (nat_lit 41), (nat_lit 42)]))
noncomputable def k222d1 : KD := 
(dIf [] (wantT g23) p41 (dLook (nat_lit 20) [] [] (lkPick g31 q2 g40) p41 k222d0) k222d0)
noncomputable def k222d2 : KD := 
(dIf [] (wantF g31) p40 (dLook (nat_lit 19) [] [] (lkBin .leq g33 g39) p40 k222d1) k222d1)
noncomputable def k222d3 : KD := 
(dIf [] (wantF g31) p39 (dLook (nat_lit 18) [] [] (lkLoad1 g38) p39 k222d2) k222d2)
noncomputable def k222d4 : KD := 
(dIf [] (wantF g31) p38 (dLook (nat_lit 17) [] [] (lkFieldAddr (nat_lit 1) g37) p38 k222d3) k222d3)
noncomputable def k222d5 : KD := 
(dIf [] (wantF g31) p37 (dLook (nat_lit 16) [] [] (lkIxSl (nat_lit 2) g34 g36) p37 k222d4) k222d4)
noncomputable def k222d6 : KD := 
(dIf [] (wantF g31) p36 (dLook (nat_lit 15) [] [] (lkBin .sub g35 q10) p36 k222d5) k222d5)
noncomputable def k222d7 : KD := 
(dIf [] (wantF g31) p35 (dLook (nat_lit 14) [] [] (lkMove g6) p35 k222d6) k222d6)
noncomputable def k222d8 : KD := 
(dIf [] (wantF g31) p34 (dLook (nat_lit 13) [] [] (lkMove g3) p34 k222d7) k222d7)
noncomputable def k222d9 : KD := 
(dIf [] (wantF g31) p33 (dLook (nat_lit 12) [] [] (lkLoad1 g32) p33 k222d8) k222d8)
noncomputable def k222d10 : KD := 
(dIf [] (wantF g31) p32 (dLook (nat_lit 11) [] [] (lkFieldAddr (nat_lit 0) g5) p32 k222d9) k222d9)
noncomputable def k222d11 : KD := 
(dIf [] (wantT g23) p31 (dLook (nat_lit 10) [] [] (lkMove g30) p31 k222d10) k222d10)
noncomputable def k222d12 : KD := 
(dIf [] (wantT g23) p30 (dLook (nat_lit 9) [] [] (lkEq false .str g29 q25) p30 k222d11) k222d11)
noncomputable def k222d13 : KD := 
(dIf [] (wantT g23) p29 (dLook (nat_lit 8) [] [] (lkLoad1 g28) p29 k222d12) k222d12)
noncomputable def k222d14 : KD := 
(dIf [] (wantT g23) p28 (dLook (nat_lit 7) [] [] (lkFieldAddr (nat_lit 1) g27) p28 k222d13) k222d13)
noncomputable def k222d15 : KD := 
(dIf [] (wantT g23) p27 (dLook (nat_lit 6) [] [] (lkIxSl (nat_lit 2) g24 g26) p27 k222d14) k222d14)
noncomputable def k222d16 : KD := 
(dIf [] (wantT g23) p26 (dLook (nat_lit 5) [] [] (lkBin .sub g25 q10) p26 k222d15) k222d15)
noncomputable def k222d17 : KD := 
(dIf [] (wantT g23) p25 (dLook (nat_lit 4) [] [] (lkMove g6) p25 k222d16) k222d16)
noncomputable def k222d18 : KD := 
(dLook (nat_lit 18) [] [] (lkPick g52 g64 q0) p65 (dEnd [(nat_lit 47), (nat_lit 48), (nat_lit 49), (nat_lit 50), (nat_lit 51), (nat_lit 52), (nat_lit 53), (nat_lit 54), (nat_lit 55), (nat_lit 56), (nat_lit 57), (nat_lit 58), (nat_lit 59), (nat_lit 60), (nat_lit 61), (nat_lit 62), (nat_lit 63), (nat_lit 64), (nat_lit 65)]))
noncomputable def k222d19 : KD := 
(dIf [] (wantT g52) p64 (dLook (nat_lit 17) [] [] (lkPick g56 q2 g63) p64 k222d18) k222d18)
noncomputable def k222d20 : KD := 
(dIf [] (wantF g56) p63 (dLook (nat_lit 16) [] [] (lkBin .gtr g58 g62) p63 k222d19) k222d19)
noncomputable def k222d21 : KD := 
(dIf [] (wantF g56) p62 (dLook (nat_lit 15) [] [] (lkLoad1 g61) p62 k222d20) k222d20)
noncomputable def k222d22 : KD := 
(dIf [] (wantF g56) p61 (dLook (nat_lit 14) [] [] (lkFieldAddr (nat_lit 1) g60) p61 k222d21) k222d21)
noncomputable def k222d23 : KD := 
(dIf [] (wantF g56) p60 (dTurn (nat_lit 13) [] [] false (xNil g59) p60 k222d22) k222d22)
noncomputable def k222d24 : KD := 
(dIf [] (wantF g56) p59 (dLook (nat_lit 12) [] [] (lkMove g7) p59 k222d23) k222d23)
noncomputable def k222d25 : KD := 
(dIf [] (wantF g56) p58 (dLook (nat_lit 11) [] [] (lkLoad1 g57) p58 k222d24) k222d24)
noncomputable def k222d26 : KD := 
(dIf [] (wantF g56) p57 (dLook (nat_lit 10) [] [] (lkFieldAddr (nat_lit 1) g5) p57 k222d25) k222d25)
noncomputable def k222d27 : KD := 
(dIf [] (wantT g52) p56 (dLook (nat_lit 9) [] [] (lkMove g55) p56 k222d26) k222d26)
noncomputable def k222d28 : KD := 
(dIf [] (wantT g52) p55 (dLook (nat_lit 8) [] [] (lkEq false .str g54 q25) p55 k222d27) k222d27)
noncomputable def k222d29 : KD := 
(dIf [] (wantT g52) p54 (dLook (nat_lit 7) [] [] (lkLoad1 g53) p54 k222d28) k222d28)
noncomputable def k222 : KFun := ⟨[rTmp (nat_lit 2) g2], (kSeq (oSet (xMove q16) p2 
oEnd) (kSeq (oSet (xMove g0) p8 
(oSet (xCall q282 [g8]) p9 
(oSet (xCall q380 [g9, q381]) p10 
(oSet (xMove g10) p0 
oEnd)))) (kSeq (oSet (xMove g0) p11 
(oSet (xCall q382 [g11, q383]) p12 
oEnd)) (kSeq (oSet (xMove q16) p3 
oEnd) (kSeq (kSeq (oSet (xMove g0) p13 
(oSet (xLook (lkLen .sl g13)) p14 
(oSet (xMove q6) p15 
oEnd))) (kBlock (nat_lit 0) (kLoop (kSeq (oSet (xLook (lkBin .lss g15 g14)) p16 
oEnd) (kSeq (kCond g16 kSkip (kExit (nat_lit 0))) (kSeq (kBlock (nat_lit 1) (kSeq (oSet (xLook (lkIxSl (nat_lit 2) g13 g15)) p17 
(oSet (xLook (lkLoadN (nat_lit 2) g17)) p18 
(oSet (xTurn (tnAlloc q61)) p5 
(oDo (xTurn (tnStore (nat_lit 2) g5 g18)) 
oEnd)))) (kSeq (kSeq (oSet (xMove g3) p19 
(oSet (xLook (lkLen .sl g19)) p20 
(oSet (xMove g20) p6 
oEnd))) (kSeq (kDraw 
(dLook (nat_lit 0) [] [] (lkMove g6) p21 
(dLook (nat_lit 1) [] [] (lkBin .gtr g21 q6) p22 
(dLook (nat_lit 2) [] [] (lkMove g22) p23 
(dIf [] (wantT g23) p24 (dLook (nat_lit 3) [] [] (lkMove g3) p24 k222d17) k222d17))))) (kCond g42 (kSeq (kSeq (oSet (xMove g3) p43 
(oSet (xMove g6) p44 
(oSet (xLook (lkBin .sub g44 q10)) p45 
(oSet (xLook (lkIxSl (nat_lit 2) g43 g45)) p46 
(oSet (xMove g46) p7 
oEnd))))) (kSeq (kDraw 
(dLook (nat_lit 0) [] [] (lkMove g7) p47 
(dTurn (nat_lit 1) [] [] false (xNil g47) p48 
(dLook (nat_lit 2) [] [] (lkFieldAddr (nat_lit 1) g48) p49 
(dLook (nat_lit 3) [] [] (lkLoad1 g49) p50 
(dLook (nat_lit 4) [] [] (lkEq true .str g50 q25) p51 
(dLook (nat_lit 5) [] [] (lkMove g51) p52 
(dIf [] (wantT g52) p53 (dLook (nat_lit 6) [] [] (lkFieldAddr (nat_lit 1) g5) p53 k222d29) k222d29)))))))) (kCond g65 (oSet (xMove g7) p66 
(oSet (xLook (lkFieldAddr (nat_lit 1) g5)) p67 
(oSet (xLook (lkLoad1 g67)) p68 
(oSet (xNil g66) p69 
(oSet (xLook (lkFieldAddr (nat_lit 1) g69)) p70 
(oDo (xTurn (tnStore (nat_lit 1) g70 g68)) 
oEnd)))))) kSkip))) (kExit (nat_lit 1))) kSkip))) (oSet (xMove g3) p71 
(oSet (xLook (lkLoadN (nat_lit 2) g5)) p72 
(oSet (xTurn (tnBuildSlice q61 [((nat_lit 0), (nat_lit 2), g72)] (nat_lit 1))) p73 
(oSet (xTurn (tnAppend (nat_lit 2) g71 g73)) p74 
(oSet (xMove g74) p3 
oEnd)))))))) (oSet (xLook (lkBin .add g15 q10)) p75 
(oSet (xMove g75) p15 
oEnd)))))))) (kSeq (oSet (xMove g3) p76 
(oSet (xMove g76) p2 
oEnd)) kRet))))))⟩
noncomputable def k223 : KFun := ⟨[rTmp (nat_lit 2) g2], (kSeq (oSet (xTurn (tnBox g0)) p1 
(oSet (xMove q230) p2 
oEnd)) (kSeq (oSet (xLook (lkMkFunc (.func (nat_lit 270)) [] [g1])) p3 
(oSet (xMove g3) p2 
oEnd)) kRet))⟩
noncomputable def k224 : KFun := ⟨[rTmp (nat_lit 2) g2], (kSeq (oSet (xTurn (tnBox g0)) p1 
(oSet (xMove q0) p2 
oEnd)) (kSeq (oSet (xLook (lkFieldAddr (nat_lit 0) g1)) p3 
(oSet (xLook (lkLoad1 g3)) p4 
(oSet (xCall q272 [g4]) p5 
(oSet (xMove g5) p6 
(oSetIf (wantT g6) (xLook (lkFieldAddr (nat_lit 1) g1)) p7 
(oSetIf (wantT g6) (xLook (lkLoad1 g7)) p8 
(oSetIf (wantT g6) (xLook (lkLen .str g8)) p9 
(oSetIf (wantT g6) (xLook (lkBin .leq g9 q62)) p10 
(oSet (xLook (lkPick g6 g10 q0)) p11 
(oSet (xMove g11) p12 
(oSetIf (wantT g12) (xLook (lkFieldAddr (nat_lit 2) g1)) p13 
(oSetIf (wantT g12) (xLook (lkLoad1 g13)) p14 
(oSetIf (wantT g12) (xLook (lkUn .not g14)) p15 
(oSetIf (wantT g12) (xMove g15) p16 
(oSetIf (wantF g16) (xLook (lkFieldAddr (nat_lit 1) g1)) p17 
(oSetIf (wantF g16) (xLook (lkLoad1 g17)) p18 
(oSetIf (wantF g16) (xLook (lkEq false .str g18 q25)) p19 
(oSetIf (wantT g12) (xLook (lkPick g16 q2 g19)) p20 
(oSet (xLook (lkPick g12 g20 q0)) p21 
(oSet (xMove g21) p2 
oEnd)))))))))))))))))))) kRet))⟩
noncomputable def k225 : KFun := ⟨[], (kSeq (oSet (xTurn (tnBox g0)) p2 
(oSet (xTurn (tnBox g1)) p3 
oEnd)) (kSeq (kSeq (oSet (xLook (lkFieldAddr (nat_lit 2) g3)) p4 
(oSet (xLook (lkLoad1 g4)) p5 
oEnd)) (kCond g5 (kSeq (oSet (xLook (lkFieldAddr (nat_lit 0) g2)) p6 
(oSet (xLook (lkLoad1 g6)) p7 
(oSet (xLook (lkFieldAddr (nat_lit 0) g3)) p8 
(oSet (xLook (lkLoad1 g8)) p9 
(oDo (xTurn (tnDelete (.one .str) g7 g9)) 
oEnd))))) kRet) kSkip)) (oSet (xLook (lkFieldAddr (nat_lit 0) g2)) p10 
(oSet (xLook (lkLoad1 g10)) p11 
(oSet (xLook (lkFieldAddr (nat_lit 0) g3)) p12 
(oSet (xLook (lkLoad1 g12)) p13 
(oSet (xLook (lkFieldAddr (nat_lit 1) g3)) p14 
(oSet (xLook (lkLoad1 g14)) p15 
(oSet (xLook (lkBuild q19 [((nat_lit 0), (nat_lit 1), g15)])) p16 
(oDo (xTurn (tnMapUpdate (.one .str) g11 g13 g16)) 
oEnd))))))))))⟩
def q384 : OpdF := kC (.func (.func (nat_lit 271)) ⟨[]⟩ ⟨[]⟩)
noncomputable def k226 : KFun := ⟨[rTmp (nat_lit 2) g2], (kSeq (oSet (xTurn (tnBox g0)) p1 
(oSet (xMove q16) p2 
oEnd)) (kSeq (oSet (xMove q16) p3 
oEnd) (kSeq (kSeq (oSet (xLook (lkFieldAddr (nat_lit 0) g1)) p6 
(oSet (xLook (lkLoad1 g6)) p7 
(oSet (xCall q384 [g7]) p8 
(oSet (xCall q187 [g8]) p9 
(oSet (xLook (lkLen .sl g9)) p10 
(oSet (xMove q6) p11 
oEnd)))))) (kBlock (nat_lit 0) (kLoop (kSeq (oSet (xLook (lkBin .lss g11 g10)) p12 
oEnd) (kSeq (kCond g12 kSkip (kExit (nat_lit 0))) (kSeq (kBlock (nat_lit 1) (kSeq (oSet (xLook (lkIxSl (nat_lit 1) g9 g11)) p13 
(oSet (xLook (lkLoad1 g13)) p14 
(oSet (xMove g14) p5 
oEnd))) (oSet (xMove g3) p15 
(oSet (xMove g5) p16 
(oSet (xLook (lkFieldAddr (nat_lit 0) g1)) p17 
(oSet (xLook (lkLoad1 g17)) p18 
(oSet (xMove g5) p19 
(oSet (xLook (lkLookup (.one .str) (.agg ⟨[(.string ⟨⟨[]⟩⟩)]⟩) false g18 g19)) p20 
(oSet (xLook (lkField1 (nat_lit 0) g20)) p21 
(oSet (xLook (lkBuild q61 [((nat_lit 0), (nat_lit 1), g16), ((nat_lit 1), (nat_lit 1), g21)])) p22 
(oSet (xTurn (tnBuildSlice q61 [((nat_lit 0), (nat_lit 2), g22)] (nat_lit 1))) p23 
(oSet (xTurn (tnAppend (nat_lit 2) g15 g23)) p24 
(oSet (xMove g24) p3 
oEnd))))))))))))) (oSet (xLook (lkBin .add g11 q10)) p25 
(oSet (xMove g25) p11 
oEnd)))))))) (kSeq (oSet (xMove g3) p26 
(oSet (xMove g26) p2 
oEnd)) kRet))))⟩
noncomputable def k228 : KFun := ⟨[rTmp (nat_lit 4) g4], (kSeq (oSet (xTurn (tnBox g0)) p2 
(oSet (xTurn (tnBox g1)) p3 
(oSet (xMove q230) p4 
oEnd))) (kSeq (oSet (xLook (lkMkFunc (.func (nat_lit 274)) [] [g3, g2])) p5 
(oSet (xMove g5) p4 
oEnd)) kRet))⟩
noncomputable def k231d0 : KD := 
(dLook (nat_lit 14) [] [(nat_lit 13)] (lkPick g19 g29 q0) p30 (dEnd [(nat_lit 16), (nat_lit 17), (nat_lit 18), (nat_lit 19), (nat_lit 20), (nat_lit 21), (nat_lit 22), (nat_lit 23), (nat_lit 24), (nat_lit 25), (nat_lit 26), (nat_lit 27), (nat_lit 28), (nat_lit 29), (nat_lit 30)]))
noncomputable def k231d1 : KD := 
(dIf [] (wantT g19) p29 (dTurn (nat_lit 13) [] [] true (xCall q346 [g23, g28]) p29 k231d0) k231d0)
noncomputable def k231d2 : KD := 
(dIf [] (wantT g19) p28 (dLook (nat_lit 12) [] [] (lkLoad1 g27) p28 k231d1) k231d1)
noncomputable def k231d3 : KD := 
(dIf [] (wantT g19) p27 (dLook (nat_lit 11) [] [] (lkIxSl (nat_lit 1) g24 g26) p27 k231d2) k231d2)
noncomputable def k231d4 : KD := 
(dIf [] (wantT g19) p26 (dLook (nat_lit 10) [] [] (lkBin .sub g25 q10) p26 k231d3) k231d3)
noncomputable def k231d5 : KD := 
(dIf [] (wantT g19) p25 (dLook (nat_lit 9) [] [] (lkMove g7) p25 k231d4) k231d4)
noncomputable def k231d6 : KD := 
(dIf [] (wantT g19) p24 (dLook (nat_lit 8) [] [] (lkMove g0) p24 k231d5) k231d5)
noncomputable def k231d7 : KD := 
(dIf [] (wantT g19) p23 (dLook (nat_lit 7) [] [] (lkLoad1 g22) p23 k231d6) k231d6)
noncomputable def k231d8 : KD := 
(dIf [] (wantT g19) p22 (dLook (nat_lit 6) [] [] (lkIxSl (nat_lit 1) g20 g21) p22 k231d7) k231d7)
noncomputable def k231d9 : KD := 
(dIf [] (wantT g19) p21 (dLook (nat_lit 5) [] [] (lkMove g7) p21 k231d8) k231d8)
noncomputable def k231 : KFun := ⟨[], (kSeq (oSet (xMove g1) p8 
(oSet (xLook (lkBin .add g8 q10)) p9 
(oSet (xMove g9) p6 
oEnd))) (kBlock (nat_lit 0) (kLoop (kSeq (kSeq (oSet (xMove g6) p10 
(oSet (xMove g2) p11 
(oSet (xLook (lkBin .lss g10 g11)) p12 
oEnd))) (kCond g12 kSkip (kExit (nat_lit 0)))) (kSeq (kBlock (nat_lit 1) (kSeq (oSet (xMove g6) p15 
(oSet (xMove g15) p7 
oEnd)) (kBlock (nat_lit 2) (kLoop (kSeq (kSeq (kDraw 
(dLook (nat_lit 0) [] [] (lkMove g7) p16 
(dLook (nat_lit 1) [] [] (lkMove g1) p17 
(dLook (nat_lit 2) [] [] (lkBin .gtr g16 g17) p18 
(dLook (nat_lit 3) [] [] (lkMove g18) p19 
(dIf [] (wantT g19) p20 (dLook (nat_lit 4) [] [] (lkMove g0) p20 k231d9) k231d9)))))) (kCond g30 kSkip (kExit (nat_lit 2)))) (kSeq (kBlock (nat_lit 3) (kDraw 
(dLook (nat_lit 0) [] [] (lkMove g0) p33 
(dLook (nat_lit 1) [] [] (lkMove g7) p34 
(dLook (nat_lit 2) [] [] (lkMove g0) p35 
(dLook (nat_lit 3) [] [] (lkMove g7) p36 
(dLook (nat_lit 4) [] [] (lkBin .sub g36 q10) p37 
(dLook (nat_lit 5) [] [] (lkMove g0) p38 
(dLook (nat_lit 6) [] [] (lkMove g7) p39 
(dLook (nat_lit 7) [] [] (lkBin .sub g39 q10) p40 
(dLook (nat_lit 8) [] [] (lkIxSl (nat_lit 1) g38 g40) p41 
(dLook (nat_lit 9) [] [] (lkLoad1 g41) p42 
(dLook (nat_lit 10) [] [] (lkMove g0) p43 
(dLook (nat_lit 11) [] [] (lkMove g7) p44 
(dLook (nat_lit 12) [] [] (lkIxSl (nat_lit 1) g43 g44) p45 
(dLook (nat_lit 13) [] [] (lkLoad1 g45) p46 
(dLook (nat_lit 14) [] [] (lkIxSl (nat_lit 1) g33 g34) p47 
(dTurn (nat_lit 15) [] [] true (xTurn (tnStore (nat_lit 1) g47 g42)) noDst 
(dLook (nat_lit 16) [] [(nat_lit 15)] (lkIxSl (nat_lit 1) g35 g37) p48 
(dTurn (nat_lit 17) [] [(nat_lit 15)] true (xTurn (tnStore (nat_lit 1) g48 g46)) noDst (dEnd [(nat_lit 33), (nat_lit 34), (nat_lit 35), (nat_lit 36), (nat_lit 37), (nat_lit 38), (nat_lit 39), (nat_lit 40), (nat_lit 41), (nat_lit 42), (nat_lit 43), (nat_lit 44), (nat_lit 45), (nat_lit 46), (nat_lit 47), (nat_lit 48)]))))))))))))))))))))) (oSet (xMove g7) p31 
(oSet (xLook (lkBin .sub g31 q10)) p32 
(oSet (xMove g32) p7 
oEnd))))))))) (oSet (xMove g6) p13 
(oSet (xLook (lkBin .add g13 q10)) p14 
(oSet (xMove g14) p6 
oEnd))))))))⟩
def q398 : OpdF := kC (.int .u64 (.ofNat (nat_lit 16)))
def q400 : OpdF := kC (.string ⟨⟨[0, 1, 2, 2, 3, 3, 3, 3, 4, 4, 4, 4, 4, 4, 4, 4, 5, 5, 5, 5, 5, 5, 5, 5, 5, 5, 5, 5, 5, 5, 5, 5, 6, 6, 6, 6, 6, 6, 6, 6, 6, 6, 6, 6, 6, 6, 6, 6, 6, 6, 6, 6, 6, 6, 6, 6, 6, 6, 6, 6, 6, 6, 6, 6, 7, 7, 7, 7, 7, 7, 7, 7, 7, 7, 7, 7, 7, 7, 7, 7, 7, 7, 7, 7, 7, 7, 7, 7, 7, 7, 7, 7, 7, 7, 7, 7, 7, 7, 7, 7, 7, 7, 7, 7, 7, 7, 7, 7, 7, 7, 7, 7, 7, 7, 7, 7, 7, 7, 7, 7, 7, 7, 7, 7, 7, 7, 7, 7, 8, 8, 8, 8, 8, 8, 8, 8, 8, 8, 8, 8, 8, 8, 8, 8, 8, 8, 8, 8, 8, 8, 8, 8, 8, 8, 8, 8, 8, 8, 8, 8, 8, 8, 8, 8, 8, 8, 8, 8, 8, 8, 8, 8, 8, 8, 8, 8, 8, 8, 8, 8, 8, 8, 8, 8, 8, 8, 8, 8, 8, 8, 8, 8, 8, 8, 8, 8, 8, 8, 8, 8, 8, 8, 8, 8, 8, 8, 8, 8, 8, 8, 8, 8, 8, 8, 8, 8, 8, 8, 8, 8, 8, 8, 8, 8, 8, 8, 8, 8, 8, 8, 8, 8, 8, 8, 8, 8, 8, 8, 8, 8, 8, 8, 8, 8, 8, 8, 8, 8, 8, 8, 8, 8, 8, 8, 8, 8]⟩⟩)
def q401 : OpdF := kC (.int .u64 (.ofNat (nat_lit 4294967296)))
def q402 : OpdF := kC (.int .u64 (.ofNat (nat_lit 32)))
def q403 : OpdF := kC (.int .u64 (.ofNat (nat_lit 65536)))
def q404 : OpdF := kC (.int .u64 (.ofNat (nat_lit 256)))
noncomputable def k241 : KFun := ⟨[rTmp (nat_lit 2) g2], (kSeq (oSet (xMove q6) p2 
oEnd) (kSeq (kSeq (oSet (xMove g0) p3 
(oSet (xLook (lkBin .geq g3 q401)) p4 
oEnd)) (kCond g4 (kSeq (oSet (xMove g0) p5 
(oSet (xLook (lkBin .shr g5 q402)) p6 
(oSet (xMove g6) p0 
oEnd))) (oSet (xMove q244) p2 
oEnd)) kSkip)) (kSeq (kSeq (oSet (xMove g0) p7 
(oSet (xLook (lkBin .geq g7 q403)) p8 
oEnd)) (kCond g8 (kSeq (oSet (xMove g0) p9 
(oSet (xLook (lkBin .shr g9 q398)) p10 
(oSet (xMove g10) p0 
oEnd))) (oSet (xMove g2) p11 
(oSet (xLook (lkBin .add g11 q65)) p12 
(oSet (xMove g12) p2 
oEnd)))) kSkip)) (kSeq (kSeq (oSet (xMove g0) p13 
(oSet (xLook (lkBin .geq g13 q404)) p14 
oEnd)) (kCond g14 (kSeq (oSet (xMove g0) p15 
(oSet (xLook (lkBin .shr g15 q357)) p16 
(oSet (xMove g16) p0 
oEnd))) (oSet (xMove g2) p17 
(oSet (xLook (lkBin .add g17 q35)) p18 
(oSet (xMove g18) p2 
oEnd)))) kSkip)) (kSeq (oSet (xMove g2) p19 
(oSet (xMove g0) p20 
(oSet (xLook (lkIntTo .u8 g20)) p21 
(oSet (xLook (lkIxStr q400 g21)) p22 
(oSet (xLook (lkIntTo .i64 g22)) p23 
(oSet (xLook (lkBin .add g19 g23)) p24 
(oSet (xMove g24) p2 
oEnd))))))) kRet)))))⟩
def q422 : OpdF := kC (.int .i64 (.ofNat (nat_lit 100)))
def q423 : OpdF := kC (.func (.func (nat_lit 285)) ⟨[]⟩ ⟨[]⟩)
def q424 : List Value := [(.int .u8 (.ofNat (nat_lit 0))), (.int .u8 (.ofNat (nat_lit 0))), (.int .u8 (.ofNat (nat_lit 0))), (.int .u8 (.ofNat (nat_lit 0))), (.int .u8 (.ofNat (nat_lit 0))), (.int .u8 (.ofNat (nat_lit 0))), (.int .u8 (.ofNat (nat_lit 0))), (.int .u8 (.ofNat (nat_lit 0))), (.int .u8 (.ofNat (nat_lit 0))), (.int .u8 (.ofNat (nat_lit 0))), (.int .u8 (.ofNat (nat_lit 0))), (.int .u8 (.ofNat (nat_lit 0))), (.int .u8 (.ofNat (nat_lit 0))), (.int .u8 (.ofNat (nat_lit 0))), (.int .u8 (.ofNat (nat_lit 0))), (.int .u8 (.ofNat (nat_lit 0))), (.int .u8 (.ofNat (nat_lit 0))), (.int .u8 (.ofNat (nat_lit 0))), (.int .u8 (.ofNat (nat_lit 0))), (.int .u8 (.ofNat (nat_lit 0))), (.int .u8 (.ofNat (nat_lit 0))), (.int .u8 (.ofNat (nat_lit 0))), (.int .u8 (.ofNat (nat_lit 0))), (.int .u8 (.ofNat (nat_lit 0)))]
def q425 : OpdF := kC (.func (.func (nat_lit 286)) ⟨[]⟩ ⟨[]⟩)
def q426 : OpdF := kC (.func (.func (nat_lit 287)) ⟨[]⟩ ⟨[]⟩)
def q427 : OpdF := kC (.int .u8 (.ofNat (nat_lit 45)))
def q428 : OpdF := kC (.func (.func (nat_lit 288)) ⟨[]⟩ ⟨[]⟩)
noncomputable def k246 : KFun := ⟨[rTmp (nat_lit 4) g4], (kSeq (oSet (xMove q25) p4 
oEnd) (kSeq (kSeq (oSet (xMove g1) p10 
(oSet (xLook (lkEq false .int g10 q103)) p11 
oEnd)) (kCond g11 (kSeq (kSeq (oSet (xMove g0) p12 
(oSet (xLook (lkBin .leq q6 g12)) p13 
(oSet (xMove g13) p14 
(oSetIf (wantT g14) (xMove g0) p15 
(oSetIf (wantT g14) (xLook (lkBin .lss g15 q422)) p16 
(oSet (xLook (lkPick g14 g16 q0)) p17 
oEnd)))))) (kCond g17 (kSeq (oSet (xMove g0) p18 
(oSet (xCall q423 [g18]) p19 
(oSet (xMove g19) p4 
oEnd))) kRet) kSkip)) (kSeq (oSet (xTurn (tnAlloc q424)) p5 
oEnd) (kSeq (oSet (xMove g0) p20 
(oSet (xLook (lkIntTo .u64 g20)) p21 
(oSet (xMove g21) p6 
oEnd))) (kSeq (kSeq (oSet (xMove g0) p22 
(oSet (xLook (lkBin .lss g22 q6)) p23 
oEnd)) (kCond g23 (oSet (xMove g6) p24 
(oSet (xLook (lkUn .neg g24)) p25 
(oSet (xMove g25) p6 
oEnd))) kSkip)) (kSeq (oSet (xMove g6) p26 
(oSet (xCall q425 [g26]) p27 
(oSet (xMove g27) p7 
oEnd))) (kSeq (oSet (xMove g7) p28 
(oSet (xLook (lkBin .add q10 g28)) p29 
(oSet (xLook (lkSliceArr (nat_lit 24) (nat_lit 1) g5 (some q10) (some g29) none)) p30 
(oSet (xMove g6) p31 
(oSet (xCall q426 [g30, g31]) p32 
oEnd))))) (kSeq (kSeq (oSet (xMove g0) p33 
(oSet (xLook (lkBin .lss g33 q6)) p34 
oEnd)) (kCond g34 (kSeq (oSet (xLook (lkIxArr (nat_lit 24) (nat_lit 1) g5 q6)) p35 
(oDo (xTurn (tnStore (nat_lit 1) g35 q427)) 
oEnd)) (kSeq (oSet (xMove g7) p36 
(oSet (xLook (lkBin .add q10 g36)) p37 
(oSet (xLook (lkSliceArr (nat_lit 24) (nat_lit 1) g5 none (some g37) none)) p38 
(oSet (xLook (lkBytesTo g38)) p39 
(oSet (xMove g39) p4 
oEnd))))) kRet)) kSkip)) (kSeq (oSet (xMove g7) p40 
(oSet (xLook (lkBin .add q10 g40)) p41 
(oSet (xLook (lkSliceArr (nat_lit 24) (nat_lit 1) g5 (some q10) (some g41) none)) p42 
(oSet (xLook (lkBytesTo g42)) p43 
(oSet (xMove g43) p4 
oEnd))))) kRet)))))))) kSkip)) (kSeq (oSet (xMove g0) p45 
(oSet (xLook (lkIntTo .u64 g45)) p46 
(oSet (xMove g1) p47 
(oSet (xMove g0) p48 
(oSet (xLook (lkBin .lss g48 q6)) p49 
(oSet (xCall q428 [q16, g46, g47, g49, q0]) p50 
(oSet (xMove g50) p44 
(oSet (xLook (lkExtract (nat_lit 0) g44)) p51 
(oSet (xLook (lkExtract (nat_lit 1) g44)) p52 
(oSet (xMove g51) p8 
(oSet (xMove g52) p9 
oEnd))))))))))) (kSeq (oSet (xMove g9) p53 
(oSet (xMove g53) p4 
oEnd)) kRet))))⟩
noncomputable def k248 : KFun := ⟨[], (kSeq (oSet (xTurn (tnBox g1)) p3 
oEnd) (kDraw 
(dLook (nat_lit 0) [] [] (lkMove g0) p4 
(dLook (nat_lit 1) [] [] (lkFieldAddr (nat_lit 1) g3) p5 
(dLook (nat_lit 2) [] [] (lkLoad1 g5) p6 
(dLook (nat_lit 3) [] [] (lkFieldAddr (nat_lit 5) g3) p7 
(dLook (nat_lit 4) [] [] (lkLoad1 g7) p8 
(dTurn (nat_lit 5) [] [] false (xNil g4) p9 
(dLook (nat_lit 6) [] [] (lkFieldAddr (nat_lit 0) g9) p10 
(dLook (nat_lit 7) [] [] (lkFieldAddr (nat_lit 0) g10) p11 
(dLook (nat_lit 8) [] [] (lkIxArr (nat_lit 8) (nat_lit 1) g11 g6) p12 
(dTurn (nat_lit 9) [] [] true (xTurn (tnStore (nat_lit 1) g12 g8)) noDst (dEnd [(nat_lit 4), (nat_lit 5), (nat_lit 6), (nat_lit 7), (nat_lit 8), (nat_lit 9), (nat_lit 10), (nat_lit 11), (nat_lit 12)])))))))))))))⟩
def q430 : OpdF := kC (.func (.func (nat_lit 291)) ⟨[]⟩ ⟨[]⟩)
def q433 : OpdF := kC (.func (.func (nat_lit 293)) ⟨[]⟩ ⟨[]⟩)
noncomputable def k251 : KFun := ⟨[], (kSeq (oSet (xTurn (tnBox g1)) p3 
oEnd) (kSeq (oSet (xMove g0) p5 
(oSet (xLook (lkFieldAddr (nat_lit 1) g3)) p6 
(oSet (xLook (lkLoad1 g6)) p7 
(oSet (xCall q430 [g5, g7]) p8 
(oSet (xMove g8) p4 
oEnd))))) (kDraw 
(dLook (nat_lit 0) [] [] (lkMove g0) p9 
(dTurn (nat_lit 1) [] [] false (xNil g9) p10 
(dLook (nat_lit 2) [] [] (lkFieldAddr (nat_lit 8) g10) p11 
(dLook (nat_lit 3) [] [] (lkMove g4) p12 
(dLook (nat_lit 4) [] [] (lkMove g0) p13 
(dLook (nat_lit 5) [] [] (lkFieldAddr (nat_lit 2) g3) p14 
(dLook (nat_lit 6) [] [] (lkLoad1 g14) p15 
(dTurn (nat_lit 7) [] [] false (xNil g13) p16 
(dLook (nat_lit 8) [] [] (lkFieldAddr (nat_lit 0) g16) p17 
(dLook (nat_lit 9) [] [] (lkFieldAddr (nat_lit 0) g17) p18 
(dLook (nat_lit 10) [] [] (lkIxArr (nat_lit 8) (nat_lit 1) g18 g15) p19 
(dLook (nat_lit 11) [] [] (lkLoad1 g19) p20 
(dLook (nat_lit 12) [] [] (lkBuild q63 [((nat_lit 0), (nat_lit 1), g12), ((nat_lit 1), (nat_lit 1), g20)]) p21 
(dTurn (nat_lit 13) [] [] true (xCall q433 [g11, g21]) p22 (dEnd [(nat_lit 9), (nat_lit 10), (nat_lit 11), (nat_lit 12), (nat_lit 13), (nat_lit 14), (nat_lit 15), (nat_lit 16), (nat_lit 17), (nat_lit 18), (nat_lit 19), (nat_lit 20), (nat_lit 21), (nat_lit 22)]))))))))))))))))))⟩
def q438 : OpdF := kC (.int .u64 (.ofNat (nat_lit 0)))
noncomputable def k263 : KFun := ⟨[], (kSeq (oSet (xLook (lkLoad1 g1)) p4 
(oSet (xTurn (tnRangeMap g4)) p5 
oEnd)) (kBlock (nat_lit 0) (kLoop (kSeq (oSet (xNextMap g5) p6 
(oSet (xLook (lkExtract (nat_lit 0) g6)) p7 
oEnd)) (kSeq (kCond g7 kSkip (kExit (nat_lit 0))) (kBlock (nat_lit 1) (kSeq (oSet (xLook (lkEntry g5)) p8 
(oSet (xLook (lkExtract (nat_lit 0) g8)) p9 
(oSet (xMove g9) p3 
oEnd))) (kSeq (oSet (xMove g0) p10 
(oSet (xMove g3) p11 
(oSet (xCall g10 [g11]) p12 
(oSet (xLook (lkUn .not g12)) p13 
oEnd)))) (kCond g13 kRet kSkip)))))))))⟩
def q441 : OpdF := kC (.func (.func (nat_lit 300)) ⟨[]⟩ ⟨[]⟩)
noncomputable def k264 : KFun := ⟨[rTmp (nat_lit 4) g4], (kSeq (oSet (xMove q16) p4 
oEnd) (kSeq (oSet (xMove g0) p8 
(oSet (xMove g1) p9 
(oSet (xCall q441 [g8, g9]) p10 
(oSet (xMove g10) p5 
oEnd)))) (kSeq (kSeq (oSet (xMove g5) p11 
(oSet (xLook (lkEq false .int g11 q33)) p12 
oEnd)) (kCond g12 (kSeq (oSet (xMove g0) p13 
(oSet (xMove g13) p4 
oEnd)) kRet) kSkip)) (kSeq (kSeq (oSet (xMove g5) p14 
(oSet (xLook (lkBin .add g14 q10)) p15 
(oSet (xMove g15) p6 
oEnd))) (kBlock (nat_lit 0) (kLoop (kSeq (kSeq (oSet (xMove g6) p16 
(oSet (xMove g0) p17 
(oSet (xLook (lkLen .sl g17)) p18 
(oSet (xLook (lkBin .lss g16 g18)) p19 
oEnd)))) (kCond g19 kSkip (kExit (nat_lit 0)))) (kSeq (kBlock (nat_lit 1) (kSeq (oSet (xMove g0) p22 
(oSet (xMove g6) p23 
(oSet (xLook (lkIxSl (nat_lit 2) g22 g23)) p24 
(oSet (xLook (lkLoadN (nat_lit 2) g24)) p25 
(oSet (xTurn (tnAlloc q61)) p7 
(oDo (xTurn (tnStore (nat_lit 2) g7 g25)) 
oEnd)))))) (kSeq (oSet (xMove g1) p26 
(oSet (xLook (lkLoadN (nat_lit 2) g7)) p27 
(oSet (xCall g26 [g27]) p28 
(oSet (xLook (lkUn .not g28)) p29 
oEnd)))) (kCond g29 (kSeq (oSet (xMove g0) p30 
(oSet (xMove g5) p31 
(oSet (xLook (lkLoadN (nat_lit 2) g7)) p32 
(oSet (xLook (lkIxSl (nat_lit 2) g30 g31)) p33 
(oDo (xTurn (tnStore (nat_lit 2) g33 g32)) 
oEnd))))) (oSet (xMove g5) p34 
(oSet (xLook (lkBin .add g34 q10)) p35 
(oSet (xMove g35) p5 
oEnd)))) kSkip)))) (oSet (xMove g6) p20 
(oSet (xLook (lkBin .add g20 q10)) p21 
(oSet (xMove g21) p6 
oEnd)))))))) (kSeq (oSet (xMove g0) p36 
(oSet (xMove g5) p37 
(oSet (xLook (lkSliceSl (nat_lit 2) g36 (some g37) none none)) p38 
(oDo (xTurn (tnClear q61 g38)) 
oEnd)))) (kSeq (oSet (xMove g0) p39 
(oSet (xMove g5) p40 
(oSet (xLook (lkSliceSl (nat_lit 2) g39 none (some g40) none)) p41 
(oSet (xMove g41) p4 
oEnd)))) kRet))))))⟩
def q442 : OpdF := kC (.func (.func (nat_lit 301)) ⟨[]⟩ ⟨[]⟩)
noncomputable def k266 : KFun := ⟨[], (kSeq (oSet (xMove g0) p5 
(oSet (xLook (lkLen .sl g5)) p6 
(oSet (xMove g6) p4 
oEnd))) (oSet (xMove g0) p7 
(oSet (xMove g4) p8 
(oSet (xMove g4) p9 
(oSet (xLook (lkIntTo .u64 g9)) p10 
(oSet (xCall q295 [g10]) p11 
(oSet (xMove g1) p12 
(oSet (xCall q442 [g7, q6, g8, g11, g12]) p13 
oEnd))))))))⟩
noncomputable def k270 : KFun := ⟨[], (kSeq (oSet (xLook (lkLoad1 g1)) p4 
(oSet (xTurn (tnRangeMap g4)) p5 
oEnd)) (kBlock (nat_lit 0) (kLoop (kSeq (oSet (xNextMap g5) p6 
(oSet (xLook (lkExtract (nat_lit 0) g6)) p7 
oEnd)) (kSeq (kCond g7 kSkip (kExit (nat_lit 0))) (kBlock (nat_lit 1) (kSeq (oSet (xLook (lkEntry g5)) p8 
(oSet (xLook (lkExtract (nat_lit 0) g8)) p9 
(oSet (xMove g9) p3 
oEnd))) (kSeq (oSet (xMove g0) p10 
(oSet (xMove g3) p11 
(oSet (xCall g10 [g11]) p12 
(oSet (xLook (lkUn .not g12)) p13 
oEnd)))) (kCond g13 kRet kSkip)))))))))⟩
noncomputable def k271 : KFun := ⟨[rTmp (nat_lit 2) g2], (kSeq (oSet (xTurn (tnBox g0)) p1 
(oSet (xMove q230) p2 
oEnd)) (kSeq (oSet (xLook (lkMkFunc (.func (nat_lit 302)) [] [g1])) p3 
(oSet (xMove g3) p2 
oEnd)) kRet))⟩
noncomputable def k274 : KFun := ⟨[], (kSeq (oSet (xLook (lkLoad1 g1)) p8 
(oSet (xLook (lkLen .sl g8)) p9 
(oSet (xMove q6) p10 
oEnd))) (kBlock (nat_lit 0) (kLoop (kSeq (oSet (xLook (lkBin .lss g10 g9)) p11 
oEnd) (kSeq (kCond g11 kSkip (kExit (nat_lit 0))) (kSeq (kBlock (nat_lit 1) (kSeq (oSet (xMove g10) p12 
(oSet (xLook (lkIxSl (nat_lit 1) g8 g10)) p13 
(oSet (xLook (lkLoad1 g13)) p14 
(oSet (xMove g12) p4 
(oSet (xMove g14) p5 
oEnd))))) (kSeq (oSet (xMove g5) p16 
(oSet (xLook (lkLoad1 g2)) p17 
(oSet (xNil g17) p18 
(oSet (xLook (lkFieldAddr (nat_lit 0) g18)) p19 
(oSet (xLook (lkFieldAddr (nat_lit 0) g19)) p20 
(oSet (xLook (lkLoad1 g20)) p21 
(oSet (xCall q274 [g16, g21]) p22 
(oSet (xMove g22) p15 
(oSet (xLook (lkExtract (nat_lit 0) g15)) p23 
(oSet (xLook (lkExtract (nat_lit 1) g15)) p24 
(oSet (xTurn (tnAlloc q204)) p6 
(oDo (xTurn (tnStore (nat_lit 5) g6 g23)) 
(oSet (xMove g24) p7 
oEnd))))))))))))) (kSeq (kSeq (oSet (xMove g7) p25 
(oSet (xLook (lkEq true .int g25 q6)) p26 
oEnd)) (kCond g26 (oSet (xLook (lkLoad1 g2)) p27 
(oSet (xMove g7) p28 
(oSet (xNil g27) p29 
(oSet (xLook (lkFieldAddr (nat_lit 0) g29)) p30 
(oSet (xLook (lkFieldAddr (nat_lit 1) g30)) p31 
(oDo (xTurn (tnStore (nat_lit 1) g31 g28)) 
oEnd)))))) kSkip)) (kSeq (kDraw 
(dLook (nat_lit 0) [] [] (lkLoad1 g2) p32 
(dTurn (nat_lit 1) [] [] false (xNil g32) p33 
(dLook (nat_lit 2) [] [] (lkFieldAddr (nat_lit 0) g33) p34 
(dLook (nat_lit 3) [] [] (lkFieldAddr (nat_lit 4) g6) p35 
(dLook (nat_lit 4) [] [] (lkLoad1 g35) p36 
(dTurn (nat_lit 5) [] [] true (xCall q227 [g34, g36]) p37 (dEnd [(nat_lit 32), (nat_lit 33), (nat_lit 34), (nat_lit 35), (nat_lit 36), (nat_lit 37)])))))))) (kSeq (oSet (xLook (lkLoad1 g2)) p38 
(oSet (xNil g38) p39 
(oSet (xLook (lkFieldAddr (nat_lit 0) g39)) p40 
(oSet (xLook (lkFieldAddr (nat_lit 1) g40)) p41 
(oSet (xLook (lkLoad1 g41)) p42 
(oSet (xLook (lkEq true .int g42 q6)) p43 
(oSet (xMove g43) p44 
(oSetIf (wantF g44) (xMove g0) p45 
(oSetIf (wantF g44) (xMove g4) p46 
(oSetIf (wantF g44) (xLook (lkLoadN (nat_lit 5) g6)) p47 
(oSetIf (wantF g44) (xCall g45 [g46, g47]) p48 
(oSetIf (wantF g44) (xLook (lkUn .not g48)) p49 
(oSet (xLook (lkPick g44 q2 g49)) p50 
oEnd))))))))))))) (kCond g50 kRet kSkip))))))) (oSet (xLook (lkBin .add g10 q10)) p51 
(oSet (xMove g51) p10 
oEnd))))))))⟩
def q450 : OpdF := kC (.int .u32 (.ofNat (nat_lit 0)))
def q516 : OpdF := kC (.string ⟨⟨[48, 49, 50, 51, 52, 53, 54, 55, 56, 57, 97, 98, 99, 100, 101, 102, 103, 104, 105, 106, 107, 108, 109, 110, 111, 112, 113, 114, 115, 116, 117, 118, 119, 120, 121, 122]⟩⟩)
def q517 : OpdF := kC (.string ⟨⟨[48, 48, 48, 49, 48, 50, 48, 51, 48, 52, 48, 53, 48, 54, 48, 55, 48, 56, 48, 57, 49, 48, 49, 49, 49, 50, 49, 51, 49, 52, 49, 53, 49, 54, 49, 55, 49, 56, 49, 57, 50, 48, 50, 49, 50, 50, 50, 51, 50, 52, 50, 53, 50, 54, 50, 55, 50, 56, 50, 57, 51, 48, 51, 49, 51, 50, 51, 51, 51, 52, 51, 53, 51, 54, 51, 55, 51, 56, 51, 57, 52, 48, 52, 49, 52, 50, 52, 51, 52, 52, 52, 53, 52, 54, 52, 55, 52, 56, 52, 57, 53, 48, 53, 49, 53, 50, 53, 51, 53, 52, 53, 53, 53, 54, 53, 55, 53, 56, 53, 57, 54, 48, 54, 49, 54, 50, 54, 51, 54, 52, 54, 53, 54, 54, 54, 55, 54, 56, 54, 57, 55, 48, 55, 49, 55, 50, 55, 51, 55, 52, 55, 53, 55, 54, 55, 55, 55, 56, 55, 57, 56, 48, 56, 49, 56, 50, 56, 51, 56, 52, 56, 53, 56, 54, 56, 55, 56, 56, 56, 57, 57, 48, 57, 49, 57, 50, 57, 51, 57, 52, 57, 53, 57, 54, 57, 55, 57, 56, 57, 57]⟩⟩)
noncomputable def k285 : KFun := ⟨[rTmp (nat_lit 2) g2], (kSeq (oSet (xMove q25) p2 
oEnd) (kSeq (kSeq (oSet (xMove g0) p3 
(oSet (xLook (lkBin .lss g3 q103)) p4 
oEnd)) (kCond g4 (kSeq (oSet (xMove g0) p5 
(oSet (xMove g0) p6 
(oSet (xLook (lkBin .add g6 q10)) p7 
(oSet (xLook (lkSliceStr q516 (some g5) (some g7))) p8 
(oSet (xMove g8) p2 
oEnd))))) kRet) kSkip)) (kSeq (oSet (xMove g0) p9 
(oSet (xLook (lkBin .mul g9 q20)) p10 
(oSet (xMove g0) p11 
(oSet (xLook (lkBin .mul g11 q20)) p12 
(oSet (xLook (lkBin .add g12 q20)) p13 
(oSet (xLook (lkSliceStr q517 (some g10) (some g13))) p14 
(oSet (xMove g14) p2 
oEnd))))))) kRet)))⟩
def q518 : OpdF := kC (.func (.func (nat_lit 309)) ⟨[]⟩ ⟨[]⟩)
def q519 : OpdF := kC (.func (.func (nat_lit 310)) ⟨[]⟩ ⟨[]⟩)
noncomputable def k286 : KFun := ⟨[rTmp (nat_lit 2) g2], (kSeq (oSet (xMove q6) p2 
oEnd) (kSeq (oSet (xMove g0) p4 
(oSet (xCall q350 [g4]) p5 
(oSet (xCall q518 [g5]) p6 
(oSet (xMove g6) p3 
oEnd)))) (kSeq (oSet (xMove g3) p7 
(oSet (xMove g0) p8 
(oSet (xMove g3) p9 
(oSet (xBad "indexAddr") p10 
(oSet (xLook (lkLoad1 g10)) p11 
(oSet (xLook (lkBin .geq g8 g11)) p12 
(oSet (xCall q519 [g12]) p13 
(oSet (xLook (lkBin .add g7 g13)) p14 
(oSet (xMove g14) p2 
oEnd))))))))) kRet)))⟩
def q520 : OpdF := kC (.int .u64 (.ofNat (nat_lit 100000000)))
def q521 : OpdF := kC (.int .u32 (.ofNat (nat_lit 10000)))
def q522 : OpdF := kC (.int .u32 (.ofNat (nat_lit 100)))
def q523 : OpdF := kC (.int .u32 (.ofNat (nat_lit 2)))
def q524 : OpdF := kC (.int .u32 (.ofNat (nat_lit 1)))
def q525 : OpdF := kC (.int .u32 (.ofNat (nat_lit 48)))
noncomputable def k287 : KFun := ⟨[], (kSeq (oSet (xMove g0) p17 
(oSet (xLook (lkLen .sl g17)) p18 
(oSet (xMove g18) p4 
oEnd))) (kSeq (kBlock (nat_lit 0) (kLoop (kSeq (kSeq (oSet (xMove g4) p19 
(oSet (xLook (lkBin .geq g19 q35)) p20 
oEnd)) (kCond g20 kSkip (kExit (nat_lit 0)))) (kBlock (nat_lit 1) (kSeq (oSet (xMove g1) p21 
(oSet (xLook (lkBin .rem g21 q520)) p22 
(oSet (xLook (lkIntTo .u32 g22)) p23 
(oSet (xMove g23) p5 
oEnd)))) (kSeq (oSet (xMove g1) p24 
(oSet (xLook (lkBin .quo g24 q520)) p25 
(oSet (xMove g25) p1 
oEnd))) (kSeq (oSet (xMove g5) p26 
(oSet (xLook (lkBin .quo g26 q521)) p27 
(oSet (xMove g5) p28 
(oSet (xLook (lkBin .rem g28 q521)) p29 
(oSet (xMove g27) p6 
(oSet (xMove g29) p7 
oEnd)))))) (kSeq (oSet (xMove g7) p30 
(oSet (xLook (lkBin .quo g30 q522)) p31 
(oSet (xLook (lkBin .mul g31 q523)) p32 
(oSet (xMove g7) p33 
(oSet (xLook (lkBin .rem g33 q522)) p34 
(oSet (xLook (lkBin .mul g34 q523)) p35 
(oSet (xMove g32) p8 
(oSet (xMove g35) p9 
oEnd)))))))) (kSeq (oSet (xMove g6) p36 
(oSet (xLook (lkBin .quo g36 q522)) p37 
(oSet (xLook (lkBin .mul g37 q523)) p38 
(oSet (xMove g6) p39 
(oSet (xLook (lkBin .rem g39 q522)) p40 
(oSet (xLook (lkBin .mul g40 q523)) p41 
(oSet (xMove g38) p10 
(oSet (xMove g41) p11 
oEnd)))))))) (kSeq (kDraw 
(dLook (nat_lit 0) [] [] (lkMove g0) p42 
(dLook (nat_lit 1) [] [] (lkMove g4) p43 
(dLook (nat_lit 2) [] [] (lkBin .sub g43 q10) p44 
(dLook (nat_lit 3) [] [] (lkMove g0) p45 
(dLook (nat_lit 4) [] [] (lkMove g4) p46 
(dLook (nat_lit 5) [] [] (lkBin .sub g46 q20) p47 
(dLook (nat_lit 6) [] [] (lkMove g9) p48 
(dLook (nat_lit 7) [] [] (lkBin .add g48 q524) p49 
(dLook (nat_lit 8) [] [] (lkIxStr q517 g49) p50 
(dLook (nat_lit 9) [] [] (lkMove g9) p51 
(dLook (nat_lit 10) [] [] (lkIxStr q517 g51) p52 
(dLook (nat_lit 11) [] [] (lkIxSl (nat_lit 1) g42 g44) p53 
(dTurn (nat_lit 12) [] [] true (xTurn (tnStore (nat_lit 1) g53 g50)) noDst 
(dLook (nat_lit 13) [] [(nat_lit 12)] (lkIxSl (nat_lit 1) g45 g47) p54 
(dTurn (nat_lit 14) [] [(nat_lit 12)] true (xTurn (tnStore (nat_lit 1) g54 g52)) noDst (dEnd [(nat_lit 42), (nat_lit 43), (nat_lit 44), (nat_lit 45), (nat_lit 46), (nat_lit 47), (nat_lit 48), (nat_lit 49), (nat_lit 50), (nat_lit 51), (nat_lit 52), (nat_lit 53), (nat_lit 54)]))))))))))))))))) (kSeq (kDraw 
(dLook (nat_lit 0) [] [] (lkMove g0) p55 
(dLook (nat_lit 1) [] [] (lkMove g4) p56 
(dLook (nat_lit 2) [] [] (lkBin .sub g56 q66) p57 
(dLook (nat_lit 3) [] [] (lkMove g0) p58 
(dLook (nat_lit 4) [] [] (lkMove g4) p59 
(dLook (nat_lit 5) [] [] (lkBin .sub g59 q27) p60 
(dLook (nat_lit 6) [] [] (lkMove g8) p61 
(dLook (nat_lit 7) [] [] (lkBin .add g61 q524) p62 
(dLook (nat_lit 8) [] [] (lkIxStr q517 g62) p63 
(dLook (nat_lit 9) [] [] (lkMove g8) p64 
(dLook (nat_lit 10) [] [] (lkIxStr q517 g64) p65 
(dLook (nat_lit 11) [] [] (lkIxSl (nat_lit 1) g55 g57) p66 
(dTurn (nat_lit 12) [] [] true (xTurn (tnStore (nat_lit 1) g66 g63)) noDst 
(dLook (nat_lit 13) [] [(nat_lit 12)] (lkIxSl (nat_lit 1) g58 g60) p67 
(dTurn (nat_lit 14) [] [(nat_lit 12)] true (xTurn (tnStore (nat_lit 1) g67 g65)) noDst (dEnd [(nat_lit 55), (nat_lit 56), (nat_lit 57), (nat_lit 58), (nat_lit 59), (nat_lit 60), (nat_lit 61), (nat_lit 62), (nat_lit 63), (nat_lit 64), (nat_lit 65), (nat_lit 66), (nat_lit 67)]))))))))))))))))) (kSeq (kDraw 
(dLook (nat_lit 0) [] [] (lkMove g0) p68 
(dLook (nat_lit 1) [] [] (lkMove g4) p69 
(dLook (nat_lit 2) [] [] (lkBin .sub g69 q81) p70 
(dLook (nat_lit 3) [] [] (lkMove g0) p71 
(dLook (nat_lit 4) [] [] (lkMove g4) p72 
(dLook (nat_lit 5) [] [] (lkBin .sub g72 q118) p73 
(dLook (nat_lit 6) [] [] (lkMove g11) p74 
(dLook (nat_lit 7) [] [] (lkBin .add g74 q524) p75 
(dLook (nat_lit 8) [] [] (lkIxStr q517 g75) p76 
(dLook (nat_lit 9) [] [] (lkMove g11) p77 
(dLook (nat_lit 10) [] [] (lkIxStr q517 g77) p78 
(dLook (nat_lit 11) [] [] (lkIxSl (nat_lit 1) g68 g70) p79 
(dTurn (nat_lit 12) [] [] true (xTurn (tnStore (nat_lit 1) g79 g76)) noDst 
(dLook (nat_lit 13) [] [(nat_lit 12)] (lkIxSl (nat_lit 1) g71 g73) p80 
(dTurn (nat_lit 14) [] [(nat_lit 12)] true (xTurn (tnStore (nat_lit 1) g80 g78)) noDst (dEnd [(nat_lit 68), (nat_lit 69), (nat_lit 70), (nat_lit 71), (nat_lit 72), (nat_lit 73), (nat_lit 74), (nat_lit 75), (nat_lit 76), (nat_lit 77), (nat_lit 78), (nat_lit 79), (nat_lit 80)]))))))))))))))))) (kSeq (kDraw 
(dLook (nat_lit 0) [] [] (lkMove g0) p81 
(dLook (nat_lit 1) [] [] (lkMove g4) p82 
(dLook (nat_lit 2) [] [] (lkBin .sub g82 q119) p83 
(dLook (nat_lit 3) [] [] (lkMove g0) p84 
(dLook (nat_lit 4) [] [] (lkMove g4) p85 
(dLook (nat_lit 5) [] [] (lkBin .sub g85 q35) p86 
(dLook (nat_lit 6) [] [] (lkMove g10) p87 
(dLook (nat_lit 7) [] [] (lkBin .add g87 q524) p88 
(dLook (nat_lit 8) [] [] (lkIxStr q517 g88) p89 
(dLook (nat_lit 9) [] [] (lkMove g10) p90 
(dLook (nat_lit 10) [] [] (lkIxStr q517 g90) p91 
(dLook (nat_lit 11) [] [] (lkIxSl (nat_lit 1) g81 g83) p92 
(dTurn (nat_lit 12) [] [] true (xTurn (tnStore (nat_lit 1) g92 g89)) noDst 
(dLook (nat_lit 13) [] [(nat_lit 12)] (lkIxSl (nat_lit 1) g84 g86) p93 
(dTurn (nat_lit 14) [] [(nat_lit 12)] true (xTurn (tnStore (nat_lit 1) g93 g91)) noDst (dEnd [(nat_lit 81), (nat_lit 82), (nat_lit 83), (nat_lit 84), (nat_lit 85), (nat_lit 86), (nat_lit 87), (nat_lit 88), (nat_lit 89), (nat_lit 90), (nat_lit 91), (nat_lit 92), (nat_lit 93)]))))))))))))))))) (oSet (xMove g4) p94 
(oSet (xLook (lkBin .sub g94 q35)) p95 
(oSet (xMove g95) p4 
oEnd)))))))))))))))) (kSeq (oSet (xMove g1) p96 
(oSet (xLook (lkIntTo .u32 g96)) p97 
(oSet (xMove g97) p12 
oEnd))) (kSeq (kSeq (oSet (xMove g4) p98 
(oSet (xLook (lkBin .geq g98 q27)) p99 
oEnd)) (kCond g99 (kSeq (oSet (xMove g12) p100 
(oSet (xLook (lkBin .rem g100 q521)) p101 
(oSet (xMove g101) p13 
oEnd))) (kSeq (oSet (xMove g12) p102 
(oSet (xLook (lkBin .quo g102 q521)) p103 
(oSet (xMove g103) p12 
oEnd))) (kSeq (oSet (xMove g13) p104 
(oSet (xLook (lkBin .quo g104 q522)) p105 
(oSet (xLook (lkBin .mul g105 q523)) p106 
(oSet (xMove g13) p107 
(oSet (xLook (lkBin .rem g107 q522)) p108 
(oSet (xLook (lkBin .mul g108 q523)) p109 
(oSet (xMove g106) p14 
(oSet (xMove g109) p15 
oEnd)))))))) (kSeq (kDraw 
(dLook (nat_lit 0) [] [] (lkMove g0) p110 
(dLook (nat_lit 1) [] [] (lkMove g4) p111 
(dLook (nat_lit 2) [] [] (lkBin .sub g111 q10) p112 
(dLook (nat_lit 3) [] [] (lkMove g0) p113 
(dLook (nat_lit 4) [] [] (lkMove g4) p114 
(dLook (nat_lit 5) [] [] (lkBin .sub g114 q20) p115 
(dLook (nat_lit 6) [] [] (lkMove g15) p116 
(dLook (nat_lit 7) [] [] (lkBin .add g116 q524) p117 
(dLook (nat_lit 8) [] [] (lkIxStr q517 g117) p118 
(dLook (nat_lit 9) [] [] (lkMove g15) p119 
(dLook (nat_lit 10) [] [] (lkIxStr q517 g119) p120 
(dLook (nat_lit 11) [] [] (lkIxSl (nat_lit 1) g110 g112) p121 
(dTurn (nat_lit 12) [] [] true (xTurn (tnStore (nat_lit 1) g121 g118)) noDst 
(dLook (nat_lit 13) [] [(nat_lit 12)] (lkIxSl (nat_lit 1) g113 g115) p122 
(dTurn (nat_lit 14) [] [(nat_lit 12)] true (xTurn (tnStore (nat_lit 1) g122 g120)) noDst (dEnd [(nat_lit 110), (nat_lit 111), (nat_lit 112), (nat_lit 113), (nat_lit 114), (nat_lit 115), (nat_lit 116), (nat_lit 117), (nat_lit 118), (nat_lit 119), (nat_lit 120), (nat_lit 121), (nat_lit 122)]))))))))))))))))) (kSeq (kDraw 
(dLook (nat_lit 0) [] [] (lkMove g0) p123 
(dLook (nat_lit 1) [] [] (lkMove g4) p124 
(dLook (nat_lit 2) [] [] (lkBin .sub g124 q66) p125 
(dLook (nat_lit 3) [] [] (lkMove g0) p126 
(dLook (nat_lit 4) [] [] (lkMove g4) p127 
(dLook (nat_lit 5) [] [] (lkBin .sub g127 q27) p128 
(dLook (nat_lit 6) [] [] (lkMove g14) p129 
(dLook (nat_lit 7) [] [] (lkBin .add g129 q524) p130 
(dLook (nat_lit 8) [] [] (lkIxStr q517 g130) p131 
(dLook (nat_lit 9) [] [] (lkMove g14) p132 
(dLook (nat_lit 10) [] [] (lkIxStr q517 g132) p133 
(dLook (nat_lit 11) [] [] (lkIxSl (nat_lit 1) g123 g125) p134 
(dTurn (nat_lit 12) [] [] true (xTurn (tnStore (nat_lit 1) g134 g131)) noDst 
(dLook (nat_lit 13) [] [(nat_lit 12)] (lkIxSl (nat_lit 1) g126 g128) p135 
(dTurn (nat_lit 14) [] [(nat_lit 12)] true (xTurn (tnStore (nat_lit 1) g135 g133)) noDst (dEnd [(nat_lit 123), (nat_lit 124), (nat_lit 125), (nat_lit 126), (nat_lit 127), (nat_lit 128), (nat_lit 129), (nat_lit 130), (nat_lit 131), (nat_lit 132), (nat_lit 133), (nat_lit 134), (nat_lit 135)]))))))))))))))))) (oSet (xMove g4) p136 
(oSet (xLook (lkBin .sub g136 q27)) p137 
(oSet (xMove g137) p4 
oEnd)))))))) kSkip)) (kSeq (kSeq (oSet (xMove g4) p138 
(oSet (xLook (lkBin .geq g138 q20)) p139 
oEnd)) (kCond g139 (kSeq (oSet (xMove g12) p140 
(oSet (xLook (lkBin .rem g140 q522)) p141 
(oSet (xLook (lkBin .mul g141 q523)) p142 
(oSet (xMove g142) p16 
oEnd)))) (kSeq (oSet (xMove g12) p143 
(oSet (xLook (lkBin .quo g143 q522)) p144 
(oSet (xMove g144) p12 
oEnd))) (kSeq (kDraw 
(dLook (nat_lit 0) [] [] (lkMove g0) p145 
(dLook (nat_lit 1) [] [] (lkMove g4) p146 
(dLook (nat_lit 2) [] [] (lkBin .sub g146 q10) p147 
(dLook (nat_lit 3) [] [] (lkMove g0) p148 
(dLook (nat_lit 4) [] [] (lkMove g4) p149 
(dLook (nat_lit 5) [] [] (lkBin .sub g149 q20) p150 
(dLook (nat_lit 6) [] [] (lkMove g16) p151 
(dLook (nat_lit 7) [] [] (lkBin .add g151 q524) p152 
(dLook (nat_lit 8) [] [] (lkIxStr q517 g152) p153 
(dLook (nat_lit 9) [] [] (lkMove g16) p154 
(dLook (nat_lit 10) [] [] (lkIxStr q517 g154) p155 
(dLook (nat_lit 11) [] [] (lkIxSl (nat_lit 1) g145 g147) p156 
(dTurn (nat_lit 12) [] [] true (xTurn (tnStore (nat_lit 1) g156 g153)) noDst 
(dLook (nat_lit 13) [] [(nat_lit 12)] (lkIxSl (nat_lit 1) g148 g150) p157 
(dTurn (nat_lit 14) [] [(nat_lit 12)] true (xTurn (tnStore (nat_lit 1) g157 g155)) noDst (dEnd [(nat_lit 145), (nat_lit 146), (nat_lit 147), (nat_lit 148), (nat_lit 149), (nat_lit 150), (nat_lit 151), (nat_lit 152), (nat_lit 153), (nat_lit 154), (nat_lit 155), (nat_lit 156), (nat_lit 157)]))))))))))))))))) (oSet (xMove g4) p158 
(oSet (xLook (lkBin .sub g158 q20)) p159 
(oSet (xMove g159) p4 
oEnd)))))) kSkip)) (kSeq (oSet (xMove g4) p160 
(oSet (xLook (lkBin .gtr g160 q6)) p161 
oEnd)) (kCond g161 (oSet (xMove g0) p162 
(oSet (xMove g12) p163 
(oSet (xLook (lkBin .add q525 g163)) p164 
(oSet (xLook (lkIntTo .u8 g164)) p165 
(oSet (xLook (lkIxSl (nat_lit 1) g162 q6)) p166 
(oDo (xTurn (tnStore (nat_lit 1) g166 g165)) 
oEnd)))))) kSkip)))))))⟩
def q526 : OpdF := kC (.int .i64 (.ofNat (nat_lit 36)))
def q527 : OpdF := kC (.string ⟨⟨[115, 116, 114, 99, 111, 110, 118, 58, 32, 105, 108, 108, 101, 103, 97, 108, 32, 65, 112, 112, 101, 110, 100, 73, 110, 116, 47, 70, 111, 114, 109, 97, 116, 73, 110, 116, 32, 98, 97, 115, 101]⟩⟩)
def q528 : List Value := [(.int .u8 (.ofNat (nat_lit 0))), (.int .u8 (.ofNat (nat_lit 0))), (.int .u8 (.ofNat (nat_lit 0))), (.int .u8 (.ofNat (nat_lit 0))), (.int .u8 (.ofNat (nat_lit 0))), (.int .u8 (.ofNat (nat_lit 0))), (.int .u8 (.ofNat (nat_lit 0))), (.int .u8 (.ofNat (nat_lit 0))), (.int .u8 (.ofNat (nat_lit 0))), (.int .u8 (.ofNat (nat_lit 0))), (.int .u8 (.ofNat (nat_lit 0))), (.int .u8 (.ofNat (nat_lit 0))), (.int .u8 (.ofNat (nat_lit 0))), (.int .u8 (.ofNat (nat_lit 0))), (.int .u8 (.ofNat (nat_lit 0))), (.int .u8 (.ofNat (nat_lit 0))), (.int .u8 (.ofNat (nat_lit 0))), (.int .u8 (.ofNat (nat_lit 0))), (.int .u8 (.ofNat (nat_lit 0))), (.int .u8 (.ofNat (nat_lit 0))), (.int .u8 (.ofNat (nat_lit 0))), (.int .u8 (.ofNat (nat_lit 0))), (.int .u8 (.ofNat (nat_lit 0))), (.int .u8 (.ofNat (nat_lit 0))), (.int .u8 (.ofNat (nat_lit 0))), (.int .u8 (.ofNat (nat_lit 0))), (.int .u8 (.ofNat (nat_lit 0))), (.int .u8 (.ofNat (nat_lit 0))), (.int .u8 (.ofNat (nat_lit 0))), (.int .u8 (.ofNat (nat_lit 0))), (.int .u8 (.ofNat (nat_lit 0))), (.int .u8 (.ofNat (nat_lit 0))), (.int .u8 (.ofNat (nat_lit 0))), (.int .u8 (.ofNat (nat_lit 0))), (.int .u8 (.ofNat (nat_lit 0))), (.int .u8 (.ofNat (nat_lit 0))), (.int .u8 (.ofNat (nat_lit 0))), (.int .u8 (.ofNat (nat_lit 0))), (.int .u8 (.ofNat (nat_lit 0))), (.int .u8 (.ofNat (nat_lit 0))), (.int .u8 (.ofNat (nat_lit 0))), (.int .u8 (.ofNat (nat_lit 0))), (.int .u8 (.ofNat (nat_lit 0))), (.int .u8 (.ofNat (nat_lit 0))), (.int .u8 (.ofNat (nat_lit 0))), (.int .u8 (.ofNat (nat_lit 0))), (.int .u8 (.ofNat (nat_lit 0))), (.int .u8 (.ofNat (nat_lit 0))), (.int .u8 (.ofNat (nat_lit 0))), (.int .u8 (.ofNat (nat_lit 0))), (.int .u8 (.ofNat (nat_lit 0))), (.int .u8 (.ofNat (nat_lit 0))), (.int .u8 (.ofNat (nat_lit 0))), (.int .u8 (.ofNat (nat_lit 0))), (.int .u8 (.ofNat (nat_lit 0))), (.int .u8 (.ofNat (nat_lit 0))), (.int .u8 (.ofNat (nat_lit 0))), (.int .u8 (.ofNat (nat_lit 0))), (.int .u8 (.ofNat (nat_lit 0))), (.int .u8 (.ofNat (nat_lit 0))), (.int .u8 (.ofNat (nat_lit 0))), (.int .u8 (.ofNat (nat_lit 0))), (.int .u8 (.ofNat (nat_lit 0))), (.int .u8 (.ofNat (nat_lit 0))), (.int .u8 (.ofNat (nat_lit 0)))]
def q529 : OpdF := kC (.int .i64 (.ofNat (nat_lit 65)))
def q530 : OpdF := kC (.func (.func (nat_lit 311)) ⟨[]⟩ ⟨[]⟩)
def q531 : OpdF := kC (.func (.func (nat_lit 312)) ⟨[]⟩ ⟨[]⟩)
noncomputable def k288 : KFun := ⟨[rTmp (nat_lit 10) g10, rTmp (nat_lit 11) g11], (kSeq (oSet (xMove q16) p10 
(oSet (xMove q25) p11 
oEnd)) (kSeq (kSeq (oSet (xMove g2) p19 
(oSet (xLook (lkBin .lss g19 q20)) p20 
(oSet (xMove g20) p21 
(oSetIf (wantF g21) (xMove g2) p22 
(oSetIf (wantF g21) (xLook (lkEq false .int g22 q103)) p23 
(oSet (xLook (lkPick g21 q2 g23)) p24 
(oSet (xMove g24) p25 
(oSetIf (wantF g25) (xMove g2) p26 
(oSetIf (wantF g25) (xLook (lkBin .gtr g26 q526)) p27 
(oSet (xLook (lkPick g25 q2 g27)) p28 
oEnd)))))))))) (kCond g28 (oSet (xLook (lkMkIface (nat_lit 9) q527)) p29 
(oDo (xPanic g29) 
oEnd)) kSkip)) (kSeq (oSet (xTurn (tnAlloc q528)) p12 
oEnd) (kSeq (oSet (xMove q529) p13 
oEnd) (kSeq (kSeq (oSet (xMove g3) p30 
oEnd) (kCond g30 (oSet (xMove g1) p31 
(oSet (xLook (lkUn .neg g31)) p32 
(oSet (xMove g32) p1 
oEnd))) kSkip)) (kSeq (kSeq (oSet (xMove g2) p33 
(oSet (xCall q530 [g33]) p34 
oEnd)) (kCond g34 (kSeq (oSet (xMove g2) p35 
(oSet (xLook (lkIntTo .u64 g35)) p36 
(oSet (xCall q531 [g36]) p37 
(oSet (xLook (lkIntTo .u64 g37)) p38 
(oSet (xMove g38) p14 
oEnd))))) (kSeq (oSet (xMove g2) p39 
(oSet (xLook (lkIntTo .u64 g39)) p40 
(oSet (xMove g40) p15 
oEnd))) (kSeq (oSet (xMove g2) p41 
(oSet (xLook (lkIntTo .u64 g41)) p42 
(oSet (xLook (lkBin .sub g42 q322)) p43 
(oSet (xMove g43) p16 
oEnd)))) (kSeq (kBlock (nat_lit 0) (kLoop (kSeq (kSeq (oSet (xMove g1) p44 
(oSet (xMove g15) p45 
(oSet (xLook (lkBin .geq g44 g45)) p46 
oEnd))) (kCond g46 kSkip (kExit (nat_lit 0)))) (kBlock (nat_lit 1) (kSeq (oSet (xMove g13) p47 
(oSet (xLook (lkBin .sub g47 q10)) p48 
(oSet (xMove g48) p13 
oEnd))) (kSeq (oSet (xMove g13) p49 
(oSet (xMove g1) p50 
(oSet (xMove g16) p51 
(oSet (xLook (lkBin .and g50 g51)) p52 
(oSet (xLook (lkIxStr q516 g52)) p53 
(oSet (xLook (lkIxArr (nat_lit 65) (nat_lit 1) g12 g49)) p54 
(oDo (xTurn (tnStore (nat_lit 1) g54 g53)) 
oEnd))))))) (oSet (xMove g1) p55 
(oSet (xMove g14) p56 
(oSet (xLook (lkBin .shr g55 g56)) p57 
(oSet (xMove g57) p1 
oEnd)))))))))) (kSeq (oSet (xMove g13) p58 
(oSet (xLook (lkBin .sub g58 q10)) p59 
(oSet (xMove g59) p13 
oEnd))) (oSet (xMove g13) p60 
(oSet (xMove g1) p61 
(oSet (xLook (lkIxStr q516 g61)) p62 
(oSet (xLook (lkIxArr (nat_lit 65) (nat_lit 1) g12 g60)) p63 
(oDo (xTurn (tnStore (nat_lit 1) g63 g62)) 
oEnd)))))))))) (kSeq (oSet (xMove g2) p64 
(oSet (xLook (lkIntTo .u64 g64)) p65 
(oSet (xMove g65) p17 
oEnd))) (kSeq (kBlock (nat_lit 2) (kLoop (kSeq (kSeq (oSet (xMove g1) p66 
(oSet (xMove g17) p67 
(oSet (xLook (lkBin .geq g66 g67)) p68 
oEnd))) (kCond g68 kSkip (kExit (nat_lit 2)))) (kBlock (nat_lit 3) (kSeq (oSet (xMove g13) p69 
(oSet (xLook (lkBin .sub g69 q10)) p70 
(oSet (xMove g70) p13 
oEnd))) (kSeq (oSet (xMove g1) p71 
(oSet (xMove g17) p72 
(oSet (xLook (lkBin .quo g71 g72)) p73 
(oSet (xMove g73) p18 
oEnd)))) (kSeq (oSet (xMove g13) p74 
(oSet (xMove g1) p75 
(oSet (xMove g18) p76 
(oSet (xMove g17) p77 
(oSet (xLook (lkBin .mul g76 g77)) p78 
(oSet (xLook (lkBin .sub g75 g78)) p79 
(oSet (xLook (lkIxStr q516 g79)) p80 
(oSet (xLook (lkIxArr (nat_lit 65) (nat_lit 1) g12 g74)) p81 
(oDo (xTurn (tnStore (nat_lit 1) g81 g80)) 
oEnd))))))))) (oSet (xMove g18) p82 
(oSet (xMove g82) p1 
oEnd))))))))) (kSeq (oSet (xMove g13) p83 
(oSet (xLook (lkBin .sub g83 q10)) p84 
(oSet (xMove g84) p13 
oEnd))) (oSet (xMove g13) p85 
(oSet (xMove g1) p86 
(oSet (xLook (lkIxStr q516 g86)) p87 
(oSet (xLook (lkIxArr (nat_lit 65) (nat_lit 1) g12 g85)) p88 
(oDo (xTurn (tnStore (nat_lit 1) g88 g87)) 
oEnd)))))))))) (kSeq (kSeq (oSet (xMove g3) p89 
oEnd) (kCond g89 (kSeq (oSet (xMove g13) p90 
(oSet (xLook (lkBin .sub g90 q10)) p91 
(oSet (xMove g91) p13 
oEnd))) (oSet (xMove g13) p92 
(oSet (xLook (lkIxArr (nat_lit 65) (nat_lit 1) g12 g92)) p93 
(oDo (xTurn (tnStore (nat_lit 1) g93 q427)) 
oEnd)))) kSkip)) (kSeq (kSeq (oSet (xMove g4) p94 
oEnd) (kCond g94 (kSeq (oSet (xMove g0) p95 
(oSet (xMove g13) p96 
(oSet (xLook (lkSliceArr (nat_lit 65) (nat_lit 1) g12 (some g96) none none)) p97 
(oSet (xTurn (tnAppend (nat_lit 1) g95 g97)) p98 
(oSet (xMove g98) p10 
oEnd))))) kRet) kSkip)) (kSeq (oSet (xMove g13) p99 
(oSet (xLook (lkSliceArr (nat_lit 65) (nat_lit 1) g12 (some g99) none none)) p100 
(oSet (xLook (lkBytesTo g100)) p101 
(oSet (xMove g101) p11 
oEnd)))) kRet)))))))))⟩

end Go.Proofs.YtfmlefelbijogaaGreatDoor.Eng
