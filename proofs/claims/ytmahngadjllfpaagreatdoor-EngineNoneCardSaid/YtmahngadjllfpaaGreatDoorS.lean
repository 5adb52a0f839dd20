/-
  The functions that the law reaches, as the abstract machine runs them, printed by program. No condition.
-/
import Derived.Test.YtmahngadjllfpaaGreatDoorS0
namespace Go.Proofs.YtmahngadjllfpaaGreatDoor.Eng
open Go Go.Eng
set_option linter.unusedVariables false
set_option maxRecDepth 100000

def q420 : OpdF := kC (.func (.func (nat_lit 332)) ⟨[]⟩ ⟨[]⟩)
def q421 : OpdF := kC (.func (.func (nat_lit 333)) ⟨[]⟩ ⟨[]⟩)
noncomputable def k225 : KFun := ⟨[rTmp (nat_lit 2) g2], (kSeq (oSet (xMove q18) p2 
oEnd) (kSeq (oSet (xMove g0) p4 
(oSet (xCall q420 [g4]) p5 
(oSet (xMove g5) p3 
oEnd))) (kSeq (oSet (xMove g3) p6 
(oSet (xCall q421 [g6]) p7 
oEnd)) (kSeq (oSet (xMove g3) p8 
(oSet (xMove g8) p2 
oEnd)) kRet))))⟩
noncomputable def k226 : KFun := ⟨[rTmp (nat_lit 2) g2], (kSeq (oSet (xTurn (tnBox g0)) p1 
(oSet (xMove q225) p2 
oEnd)) (kSeq (oSet (xLook (lkMkFunc (.func (nat_lit 334)) [] [g1])) p3 
(oSet (xMove g3) p2 
oEnd)) kRet))⟩
def q422 : OpdF := kC (.func (.func (nat_lit 335)) ⟨[]⟩ ⟨[]⟩)
def q423 : OpdF := kC (.func (.func (nat_lit 336)) ⟨[]⟩ ⟨[]⟩)
def q424 : OpdF := kC (.func (.func (nat_lit 337)) ⟨[]⟩ ⟨[]⟩)
def q425 : OpdF := kC (.func (.func (nat_lit 338)) ⟨[]⟩ ⟨[]⟩)
noncomputable def k227d0 : KD := 
(dLook (nat_lit 21) [] [] (lkPick g23 g41 q0) p42 (dEnd [(nat_lit 21), (nat_lit 22), (nat_lit 23), (nat_lit 24), (nat_lit 25), (nat_lit 26), (nat_lit 27), (nat_lit 28), (nat_lit 29), (nat_lit 30), (nat_lit 31), (nat_lit 32), (nat_lit 33), (nat_lit 34), (nat_lit 35), (nat_lit 36), (nat_lit 37), (nat_lit 38), (nat_lit 39), (nat_lit 40), (nat_lit 41), (nat_lit 42)]))
noncomputable def k227d1 : KD := 
(dIf [] (wantT g23) p41 (dLook (nat_lit 20) [] [] (lkPick g31 q2 g40) p41 k227d0) k227d0)
noncomputable def k227d2 : KD := 
(dIf [] (wantF g31) p40 (dLook (nat_lit 19) [] [] (lkBin .leq g33 g39) p40 k227d1) k227d1)
noncomputable def k227d3 : KD := 
(dIf [] (wantF g31) p39 (dLook (nat_lit 18) [] [] (lkLoad1 g38) p39 k227d2) k227d2)
noncomputable def k227d4 : KD := 
(dIf [] (wantF g31) p38 (dLook (nat_lit 17) [] [] (lkFieldAddr (nat_lit 1) g37) p38 k227d3) k227d3)
noncomputable def k227d5 : KD := 
(dIf [] (wantF g31) p37 (dLook (nat_lit 16) [] [] (lkIxSl (nat_lit 2) g34 g36) p37 k227d4) k227d4)
noncomputable def k227d6 : KD := 
(dIf [] (wantF g31) p36 (dLook (nat_lit 15) [] [] (lkBin .sub g35 q16) p36 k227d5) k227d5)
noncomputable def k227d7 : KD := 
(dIf [] (wantF g31) p35 (dLook (nat_lit 14) [] [] (lkMove g6) p35 k227d6) k227d6)
noncomputable def k227d8 : KD := 
(dIf [] (wantF g31) p34 (dLook (nat_lit 13) [] [] (lkMove g3) p34 k227d7) k227d7)
noncomputable def k227d9 : KD := 
(dIf [] (wantF g31) p33 (dLook (nat_lit 12) [] [] (lkLoad1 g32) p33 k227d8) k227d8)
noncomputable def k227d10 : KD := 
(dIf [] (wantF g31) p32 (dLook (nat_lit 11) [] [] (lkFieldAddr (nat_lit 0) g5) p32 k227d9) k227d9)
noncomputable def k227d11 : KD := 
(dIf [] (wantT g23) p31 (dLook (nat_lit 10) [] [] (lkMove g30) p31 k227d10) k227d10)
noncomputable def k227d12 : KD := 
(dIf [] (wantT g23) p30 (dLook (nat_lit 9) [] [] (lkEq false .str g29 q111) p30 k227d11) k227d11)
noncomputable def k227d13 : KD := 
(dIf [] (wantT g23) p29 (dLook (nat_lit 8) [] [] (lkLoad1 g28) p29 k227d12) k227d12)
noncomputable def k227d14 : KD := 
(dIf [] (wantT g23) p28 (dLook (nat_lit 7) [] [] (lkFieldAddr (nat_lit 1) g27) p28 k227d13) k227d13)
noncomputable def k227d15 : KD := 
(dIf [] (wantT g23) p27 (dLook (nat_lit 6) [] [] (lkIxSl (nat_lit 2) g24 g26) p27 k227d14) k227d14)
noncomputable def k227d16 : KD := 
(dIf [] (wantT g23) p26 (dLook (nat_lit 5) [] [] (lkBin .sub g25 q16) p26 k227d15) k227d15)
noncomputable def k227d17 : KD := 
(dIf [] (wantT g23) p25 (dLook (nat_lit 4) [] [] (lkMove g6) p25 k227d16) k227d16)
noncomputable def k227d18 : KD := 
(dLook (nat_lit 18) [] [] (lkPick g52 g64 q0) p65 (dEnd [(nat_lit 47), (nat_lit 48), (nat_lit 49), (nat_lit 50), (nat_lit 51), (nat_lit 52), (nat_lit 53), (nat_lit 54), (nat_lit 55), (nat_lit 56), (nat_lit 57), (nat_lit 58), (nat_lit 59), (nat_lit 60), (nat_lit 61), (nat_lit 62), (nat_lit 63), (nat_lit 64), (nat_lit 65)]))
noncomputable def k227d19 : KD := 
(dIf [] (wantT g52) p64 (dLook (nat_lit 17) [] [] (lkPick g56 q2 g63) p64 k227d18) k227d18)
noncomputable def k227d20 : KD := 
(dIf [] (wantF g56) p63 (dLook (nat_lit 16) [] [] (lkBin .gtr g58 g62) p63 k227d19) k227d19)
noncomputable def k227d21 : KD := 
(dIf [] (wantF g56) p62 (dLook (nat_lit 15) [] [] (lkLoad1 g61) p62 k227d20) k227d20)
noncomputable def k227d22 : KD := 
(dIf [] (wantF g56) p61 (dLook (nat_lit 14) [] [] (lkFieldAddr (nat_lit 1) g60) p61 k227d21) k227d21)
noncomputable def k227d23 : KD := 
(dIf [] (wantF g56) p60 (dTurn (nat_lit 13) [] [] false (xNil g59) p60 k227d22) k227d22)
noncomputable def k227d24 : KD := 
(dIf [] (wantF g56) p59 (dLook (nat_lit 12) [] [] (lkMove g7) p59 k227d23) k227d23)
noncomputable def k227d25 : KD := 
(dIf [] (wantF g56) p58 (dLook (nat_lit 11) [] [] (lkLoad1 g57) p58 k227d24) k227d24)
noncomputable def k227d26 : KD := 
(dIf [] (wantF g56) p57 (dLook (nat_lit 10) [] [] (lkFieldAddr (nat_lit 1) g5) p57 k227d25) k227d25)
noncomputable def k227d27 : KD := 
(dIf [] (wantT g52) p56 (dLook (nat_lit 9) [] [] (lkMove g55) p56 k227d26) k227d26)
noncomputable def k227d28 : KD := 
(dIf [] (wantT g52) p55 (dLook (nat_lit 8) [] [] (lkEq false .str g54 q111) p55 k227d27) k227d27)
noncomputable def k227d29 : KD := 
(dIf [] (wantT g52) p54 (dLook (nat_lit 7) [] [] (lkLoad1 g53) p54 k227d28) k227d28)
noncomputable def k227 : KFun := ⟨[rTmp (nat_lit 2) g2], (kSeq (oSet (xMove q18) p2 
oEnd) (kSeq (oSet (xMove g0) p8 
(oSet (xCall q178 [g8]) p9 
(oSet (xCall q422 [g9, q423]) p10 
(oSet (xMove g10) p0 
oEnd)))) (kSeq (oSet (xMove g0) p11 
(oSet (xCall q424 [g11, q425]) p12 
oEnd)) (kSeq (oSet (xMove q18) p3 
oEnd) (kSeq (kSeq (oSet (xMove g0) p13 
(oSet (xLook (lkLen .sl g13)) p14 
(oSet (xMove q6) p15 
oEnd))) (kBlock (nat_lit 0) (kLoop (kSeq (oSet (xLook (lkBin .lss g15 g14)) p16 
oEnd) (kSeq (kCond g16 kSkip (kExit (nat_lit 0))) (kSeq (kBlock (nat_lit 1) (kSeq (oSet (xLook (lkIxSl (nat_lit 2) g13 g15)) p17 
(oSet (xLook (lkLoadN (nat_lit 2) g17)) p18 
(oSet (xTurn (tnAlloc q52)) p5 
(oDo (xTurn (tnStore (nat_lit 2) g5 g18)) 
oEnd)))) (kSeq (kSeq (oSet (xMove g3) p19 
(oSet (xLook (lkLen .sl g19)) p20 
(oSet (xMove g20) p6 
oEnd))) (kSeq (kDraw 
(dLook (nat_lit 0) [] [] (lkMove g6) p21 
(dLook (nat_lit 1) [] [] (lkBin .gtr g21 q6) p22 
(dLook (nat_lit 2) [] [] (lkMove g22) p23 
(dIf [] (wantT g23) p24 (dLook (nat_lit 3) [] [] (lkMove g3) p24 k227d17) k227d17))))) (kCond g42 (kSeq (kSeq (oSet (xMove g3) p43 
(oSet (xMove g6) p44 
(oSet (xLook (lkBin .sub g44 q16)) p45 
(oSet (xLook (lkIxSl (nat_lit 2) g43 g45)) p46 
(oSet (xMove g46) p7 
oEnd))))) (kSeq (kDraw 
(dLook (nat_lit 0) [] [] (lkMove g7) p47 
(dTurn (nat_lit 1) [] [] false (xNil g47) p48 
(dLook (nat_lit 2) [] [] (lkFieldAddr (nat_lit 1) g48) p49 
(dLook (nat_lit 3) [] [] (lkLoad1 g49) p50 
(dLook (nat_lit 4) [] [] (lkEq true .str g50 q111) p51 
(dLook (nat_lit 5) [] [] (lkMove g51) p52 
(dIf [] (wantT g52) p53 (dLook (nat_lit 6) [] [] (lkFieldAddr (nat_lit 1) g5) p53 k227d29) k227d29)))))))) (kCond g65 (oSet (xMove g7) p66 
(oSet (xLook (lkFieldAddr (nat_lit 1) g5)) p67 
(oSet (xLook (lkLoad1 g67)) p68 
(oSet (xNil g66) p69 
(oSet (xLook (lkFieldAddr (nat_lit 1) g69)) p70 
(oDo (xTurn (tnStore (nat_lit 1) g70 g68)) 
oEnd)))))) kSkip))) (kExit (nat_lit 1))) kSkip))) (oSet (xMove g3) p71 
(oSet (xLook (lkLoadN (nat_lit 2) g5)) p72 
(oSet (xTurn (tnBuildSlice q52 [((nat_lit 0), (nat_lit 2), g72)] (nat_lit 1))) p73 
(oSet (xTurn (tnAppend (nat_lit 2) g71 g73)) p74 
(oSet (xMove g74) p3 
oEnd)))))))) (oSet (xLook (lkBin .add g15 q16)) p75 
(oSet (xMove g75) p15 
oEnd)))))))) (kSeq (oSet (xMove g3) p76 
(oSet (xMove g76) p2 
oEnd)) kRet))))))⟩
noncomputable def k228 : KFun := ⟨[rTmp (nat_lit 2) g2], (kSeq (oSet (xTurn (tnBox g0)) p1 
(oSet (xMove q225) p2 
oEnd)) (kSeq (oSet (xLook (lkMkFunc (.func (nat_lit 341)) [] [g1])) p3 
(oSet (xMove g3) p2 
oEnd)) kRet))⟩
noncomputable def k229 : KFun := ⟨[rTmp (nat_lit 2) g2], (kSeq (oSet (xTurn (tnBox g0)) p1 
(oSet (xMove q0) p2 
oEnd)) (kSeq (oSet (xLook (lkFieldAddr (nat_lit 0) g1)) p3 
(oSet (xLook (lkLoad1 g3)) p4 
(oSet (xCall q166 [g4]) p5 
(oSet (xMove g5) p6 
(oSetIf (wantT g6) (xLook (lkFieldAddr (nat_lit 1) g1)) p7 
(oSetIf (wantT g6) (xLook (lkLoad1 g7)) p8 
(oSetIf (wantT g6) (xLook (lkLen .str g8)) p9 
(oSetIf (wantT g6) (xLook (lkBin .leq g9 q254)) p10 
(oSet (xLook (lkPick g6 g10 q0)) p11 
(oSet (xMove g11) p12 
(oSetIf (wantT g12) (xLook (lkFieldAddr (nat_lit 2) g1)) p13 
(oSetIf (wantT g12) (xLook (lkLoad1 g13)) p14 
(oSetIf (wantT g12) (xLook (lkUn .not g14)) p15 
(oSetIf (wantT g12) (xMove g15) p16 
(oSetIf (wantF g16) (xLook (lkFieldAddr (nat_lit 1) g1)) p17 
(oSetIf (wantF g16) (xLook (lkLoad1 g17)) p18 
(oSetIf (wantF g16) (xLook (lkEq false .str g18 q111)) p19 
(oSetIf (wantT g12) (xLook (lkPick g16 q2 g19)) p20 
(oSet (xLook (lkPick g12 g20 q0)) p21 
(oSet (xMove g21) p2 
oEnd)))))))))))))))))))) kRet))⟩
noncomputable def k230 : KFun := ⟨[], (kSeq (oSet (xTurn (tnBox g0)) p2 
(oSet (xTurn (tnBox g1)) p3 
oEnd)) (kSeq (kSeq (oSet (xLook (lkFieldAddr (nat_lit 2) g3)) p4 
(oSet (xLook (lkLoad1 g4)) p5 
oEnd)) (kCond g5 (kSeq (oSet (xLook (lkFieldAddr (nat_lit 0) g2)) p6 
(oSet (xLook (lkLoad1 g6)) p7 
(oSet (xLook (lkFieldAddr (nat_lit 0) g3)) p8 
(oSet (xLook (lkLoad1 g8)) p9 
(oDo (xTurn (tnDelete (.one .str) g7 g9)) 
oEnd))))) kRet) kSkip)) (oSet (xLook (lkFieldAddr (nat_lit 0) g2)) p10 
(oSet (xLook (lkLoad1 g10)) p11 
(oSet (xLook (lkFieldAddr (nat_lit 0) g3)) p12 
(oSet (xLook (lkLoad1 g12)) p13 
(oSet (xLook (lkFieldAddr (nat_lit 1) g3)) p14 
(oSet (xLook (lkLoad1 g14)) p15 
(oSet (xLook (lkBuild q200 [((nat_lit 0), (nat_lit 1), g15)])) p16 
(oDo (xTurn (tnMapUpdate (.one .str) g11 g13 g16)) 
oEnd))))))))))⟩
def q426 : OpdF := kC (.func (.func (nat_lit 342)) ⟨[]⟩ ⟨[]⟩)
noncomputable def k231 : KFun := ⟨[rTmp (nat_lit 2) g2], (kSeq (oSet (xTurn (tnBox g0)) p1 
(oSet (xMove q18) p2 
oEnd)) (kSeq (oSet (xMove q18) p3 
oEnd) (kSeq (kSeq (oSet (xLook (lkFieldAddr (nat_lit 0) g1)) p6 
(oSet (xLook (lkLoad1 g6)) p7 
(oSet (xCall q426 [g7]) p8 
(oSet (xCall q294 [g8]) p9 
(oSet (xLook (lkLen .sl g9)) p10 
(oSet (xMove q6) p11 
oEnd)))))) (kBlock (nat_lit 0) (kLoop (kSeq (oSet (xLook (lkBin .lss g11 g10)) p12 
oEnd) (kSeq (kCond g12 kSkip (kExit (nat_lit 0))) (kSeq (kBlock (nat_lit 1) (kSeq (oSet (xLook (lkIxSl (nat_lit 1) g9 g11)) p13 
(oSet (xLook (lkLoad1 g13)) p14 
(oSet (xMove g14) p5 
oEnd))) (oSet (xMove g3) p15 
(oSet (xMove g5) p16 
(oSet (xLook (lkFieldAddr (nat_lit 0) g1)) p17 
(oSet (xLook (lkLoad1 g17)) p18 
(oSet (xMove g5) p19 
(oSet (xLook (lkLookup (.one .str) (.agg ⟨[(.string ⟨⟨[]⟩⟩)]⟩) false g18 g19)) p20 
(oSet (xLook (lkField1 (nat_lit 0) g20)) p21 
(oSet (xLook (lkBuild q52 [((nat_lit 0), (nat_lit 1), g16), ((nat_lit 1), (nat_lit 1), g21)])) p22 
(oSet (xTurn (tnBuildSlice q52 [((nat_lit 0), (nat_lit 2), g22)] (nat_lit 1))) p23 
(oSet (xTurn (tnAppend (nat_lit 2) g15 g23)) p24 
(oSet (xMove g24) p3 
oEnd))))))))))))) (oSet (xLook (lkBin .add g11 q16)) p25 
(oSet (xMove g25) p11 
oEnd)))))))) (kSeq (oSet (xMove g3) p26 
(oSet (xMove g26) p2 
oEnd)) kRet))))⟩
def q429 : OpdF := kC (.func (.func (nat_lit 235)) ⟨[]⟩ ⟨[]⟩)
noncomputable def k234 : KFun := ⟨[], (kSeq (oSet (xLook (lkLoad1 g1)) p7 
(oSet (xLook (lkLen .sl g7)) p8 
(oSet (xMove q6) p9 
oEnd))) (kBlock (nat_lit 0) (kLoop (kSeq (oSet (xLook (lkBin .lss g9 g8)) p10 
oEnd) (kSeq (kCond g10 kSkip (kExit (nat_lit 0))) (kSeq (kBlock (nat_lit 1) (kSeq (oSet (xMove g9) p11 
(oSet (xLook (lkIxSl (nat_lit 1) g7 g9)) p12 
(oSet (xLook (lkLoad1 g12)) p13 
(oSet (xMove g11) p3 
(oSet (xMove g13) p4 
oEnd))))) (kSeq (oSet (xMove g4) p15 
(oSet (xTurn (tnToBytes g15)) p16 
(oSet (xCall q429 [g16]) p17 
(oSet (xMove g17) p14 
(oSet (xLook (lkExtract (nat_lit 0) g14)) p18 
(oSet (xLook (lkExtract (nat_lit 1) g14)) p19 
(oSet (xTurn (tnAlloc q68)) p5 
(oSet (xTurn (tnAlloc q66)) p6 
(oDo (xTurn (tnStore (nat_lit 5) g5 g18)) 
(oDo (xTurn (tnStore (nat_lit 2) g6 g19)) 
oEnd)))))))))) (kSeq (oSet (xLook (lkFieldAddr (nat_lit 0) g6)) p20 
(oSet (xLook (lkLoad1 g20)) p21 
(oSet (xLook (lkEq true .int g21 q6)) p22 
(oSet (xMove g22) p23 
(oSetIf (wantF g23) (xMove g0) p24 
(oSetIf (wantF g23) (xMove g3) p25 
(oSetIf (wantF g23) (xLook (lkLoadN (nat_lit 5) g5)) p26 
(oSetIf (wantF g23) (xCall g24 [g25, g26]) p27 
(oSetIf (wantF g23) (xLook (lkUn .not g27)) p28 
(oSet (xLook (lkPick g23 q2 g28)) p29 
oEnd)))))))))) (kCond g29 kRet kSkip))))) (oSet (xLook (lkBin .add g9 q16)) p30 
(oSet (xMove g30) p9 
oEnd))))))))⟩
def q430 : OpdF := kC (.func (.func (nat_lit 345)) ⟨[]⟩ ⟨[]⟩)
def q431 : OpdF := kC (.func (.func (nat_lit 347)) ⟨[]⟩ ⟨[]⟩)
def q432 : OpdF := kC (.func (.func (nat_lit 349)) ⟨[]⟩ ⟨[]⟩)
noncomputable def k235 : KFun := ⟨[rCellN (nat_lit 2) g2 (nat_lit 5), rCellN (nat_lit 3) g3 (nat_lit 2)], (kSeq (oSet (xTurn (tnAlloc q68)) p2 
(oSet (xTurn (tnAlloc q66)) p3 
oEnd)) (kSeq (oSet (xMove g0) p8 
(oSet (xCall q154 [g8]) p9 
(oSet (xLook (lkBuild q46 [((nat_lit 0), (nat_lit 1), g9)])) p10 
(oSet (xTurn (tnAlloc q46)) p4 
(oDo (xTurn (tnStore (nat_lit 1) g4 g10)) 
oEnd))))) (kSeq (oSet (xLook (lkFieldAddr (nat_lit 0) g4)) p11 
(oSet (xLook (lkLoad1 g11)) p12 
(oSet (xCall q280 [g12, q6, q83]) p13 
(oSet (xMove g13) p5 
oEnd)))) (kSeq (oSet (xMove g5) p14 
(oSet (xLook (lkFieldAddr (nat_lit 0) g4)) p15 
(oSet (xLook (lkLoad1 g15)) p16 
(oSet (xCall q280 [g16, q6, q162]) p17 
(oSet (xLook (lkBuild q68 [((nat_lit 0), (nat_lit 1), g14), ((nat_lit 1), (nat_lit 1), g17)])) p18 
(oSet (xTurn (tnAlloc q68)) p6 
(oDo (xTurn (tnStore (nat_lit 5) g6 g18)) 
oEnd))))))) (kSeq (oSet (xLook (lkLoadN (nat_lit 1) g4)) p19 
(oSet (xLook (lkLoadN (nat_lit 1) g4)) p20 
(oSet (xLook (lkMkFunc (.func (nat_lit 346)) [g20] [])) p21 
(oSet (xCall q430 [g19, g21]) p22 
(oSet (xLook (lkFieldAddr (nat_lit 2) g6)) p23 
(oDo (xTurn (tnStore (nat_lit 1) g23 g22)) 
oEnd)))))) (kSeq (oSet (xLook (lkLoadN (nat_lit 1) g4)) p24 
(oSet (xLook (lkLoadN (nat_lit 1) g4)) p25 
(oSet (xLook (lkMkFunc (.func (nat_lit 348)) [g25] [])) p26 
(oSet (xCall q431 [g24, g26]) p27 
(oSet (xLook (lkFieldAddr (nat_lit 3) g6)) p28 
(oDo (xTurn (tnStore (nat_lit 1) g28 g27)) 
oEnd)))))) (kSeq (oSet (xLook (lkLoadN (nat_lit 1) g4)) p29 
(oSet (xLook (lkLoadN (nat_lit 1) g4)) p30 
(oSet (xLook (lkMkFunc (.func (nat_lit 350)) [g30] [])) p31 
(oSet (xCall q432 [g29, g31]) p32 
(oSet (xLook (lkFieldAddr (nat_lit 4) g6)) p33 
(oDo (xTurn (tnStore (nat_lit 1) g33 g32)) 
oEnd)))))) (kSeq (kSeq (oSet (xLook (lkFieldAddr (nat_lit 0) g4)) p34 
(oSet (xLook (lkLoad1 g34)) p35 
(oSet (xCall q267 [g35]) p36 
(oSet (xTurn (tnAlloc q66)) p7 
(oDo (xTurn (tnStore (nat_lit 2) g7 g36)) 
oEnd))))) (kSeq (oSet (xLook (lkFieldAddr (nat_lit 0) g7)) p37 
(oSet (xLook (lkLoad1 g37)) p38 
(oSet (xLook (lkEq true .int g38 q6)) p39 
oEnd))) (kCond g39 (kSeq (kDraw 
(dLook (nat_lit 0) [] [] (lkBuild q68 []) p40 
(dLook (nat_lit 1) [] [] (lkLoadN (nat_lit 2) g7) p41 
(dTurn (nat_lit 2) [(nat_lit 1)] [] true (xTurn (tnStore (nat_lit 5) g2 g40)) noDst 
(dTurn (nat_lit 3) [] [(nat_lit 2)] true (xTurn (tnStore (nat_lit 2) g3 g41)) noDst (dEnd [(nat_lit 40), (nat_lit 41)])))))) kRet) kSkip))) (kSeq (kSeq (oSet (xLook (lkLoadN (nat_lit 5) g6)) p42 
(oSet (xCall q69 [g42]) p43 
(oSet (xLook (lkEq true .int g43 q6)) p44 
oEnd))) (kCond g44 (kSeq (oSet (xLook (lkBuild q68 [])) p45 
(oSet (xLook (lkBuild q66 [((nat_lit 0), (nat_lit 1), q35)])) p46 
(oDo (xTurn (tnStore (nat_lit 5) g2 g45)) 
(oDo (xTurn (tnStore (nat_lit 2) g3 g46)) 
oEnd)))) kRet) kSkip)) (kSeq (oSet (xLook (lkLoadN (nat_lit 5) g6)) p47 
(oSet (xLook (lkBuild q66 [])) p48 
(oDo (xTurn (tnStore (nat_lit 5) g2 g47)) 
(oDo (xTurn (tnStore (nat_lit 2) g3 g48)) 
oEnd)))) kRet))))))))))⟩
noncomputable def k236 : KFun := ⟨[rTmp (nat_lit 2) g2, rTmp (nat_lit 3) g3], (kSeq (oSet (xTurn (tnBox g0)) p1 
(oSet (xMove q18) p2 
(oSet (xMove q6) p3 
oEnd))) (kSeq (kSeq (oSet (xLook (lkLoadN (nat_lit 6) g1)) p8 
(oSet (xCall q186 [g8]) p9 
(oSet (xMove g9) p4 
oEnd))) (kSeq (oSet (xMove g4) p10 
(oSet (xLook (lkEq true .int g10 q6)) p11 
oEnd)) (kCond g11 (kSeq (oSet (xMove g4) p12 
(oSet (xMove q18) p2 
(oSet (xMove g12) p3 
oEnd))) kRet) kSkip))) (kSeq (oSet (xCall q122 []) p13 
(oSet (xMove g13) p5 
oEnd)) (kSeq (oSet (xMove g5) p14 
(oSet (xLook (lkFieldAddr (nat_lit 0) g1)) p15 
(oSet (xLook (lkLoad1 g15)) p16 
(oSet (xCall q123 [g14, g16]) p17 
oEnd)))) (kSeq (kSeq (oSet (xLook (lkFieldAddr (nat_lit 0) g1)) p18 
(oSet (xLook (lkLoad1 g18)) p19 
(oSet (xCall q282 [g19]) p20 
(oSet (xTurn (tnRangeStr g20)) p21 
oEnd)))) (kBlock (nat_lit 0) (kLoop (kSeq (oSet (xTurn (tnNextStr g21)) p22 
(oSet (xLook (lkExtract (nat_lit 0) g22)) p23 
oEnd)) (kSeq (kCond g23 kSkip (kExit (nat_lit 0))) (kBlock (nat_lit 1) (kSeq (oSet (xLook (lkExtract (nat_lit 2) g22)) p24 
(oSet (xMove g24) p7 
oEnd)) (kSeq (oSet (xMove g7) p25 
(oSet (xLook (lkEq false .int g25 q283)) p26 
oEnd)) (kCond g26 (oSet (xMove g5) p27 
(oSet (xLook (lkFieldAddr (nat_lit 5) g1)) p28 
(oSet (xLook (lkLoad1 g28)) p29 
(oSet (xCall q124 [g27, g29]) p30 
oEnd)))) (oSet (xMove g5) p31 
(oSet (xMove g7) p32 
(oSet (xCall q287 [g1, g32]) p33 
(oSet (xNil g33) p34 
(oSet (xLook (lkLoad1 g34)) p35 
(oSet (xCall q123 [g31, g35]) p36 
oEnd))))))))))))))) (kSeq (oSet (xMove g5) p37 
(oSet (xCall q126 [g37]) p38 
(oSet (xLook (lkExtract (nat_lit 0) g38)) p39 
(oSet (xLook (lkExtract (nat_lit 1) g38)) p40 
(oSet (xMove g39) p2 
(oSet (xMove g40) p3 
oEnd)))))) kRet))))))⟩
noncomputable def k238 : KFun := ⟨[rTmp (nat_lit 4) g4], (kSeq (oSet (xMove q6) p4 
oEnd) (kSeq (kSeq (oSet (xMove g0) p6 
(oSet (xLook (lkLen .sl g6)) p7 
(oSet (xMove q6) p8 
oEnd))) (kBlock (nat_lit 0) (kLoop (kSeq (oSet (xLook (lkBin .lss g8 g7)) p9 
oEnd) (kSeq (kCond g9 kSkip (kExit (nat_lit 0))) (kSeq (kBlock (nat_lit 1) (kSeq (oSet (xMove g8) p10 
(oSet (xMove g10) p5 
oEnd)) (kSeq (oSet (xMove g1) p11 
(oSet (xMove g0) p12 
(oSet (xMove g5) p13 
(oSet (xLook (lkIxSl (nat_lit 1) g12 g13)) p14 
(oSet (xLook (lkLoad1 g14)) p15 
(oSet (xCall g11 [g15]) p16 
oEnd)))))) (kCond g16 (kSeq (oSet (xMove g5) p17 
(oSet (xMove g17) p4 
oEnd)) kRet) kSkip)))) (oSet (xLook (lkBin .add g8 q16)) p18 
(oSet (xMove g18) p8 
oEnd)))))))) (kSeq (oSet (xMove q269) p4 
oEnd) kRet)))⟩
def q434 : OpdF := kC (.int .u8 (.ofNat (nat_lit 8)))
noncomputable def k239 : KFun := ⟨[rTmp (nat_lit 6) g6], (kSeq (oSet (xTurn (tnBox g2)) p5 
(oSet (xMove q0) p6 
oEnd)) (kSeq (oSet (xMove g1) p7 
(oSet (xLook (lkEq false .int g7 q38)) p8 
(oSet (xMove g8) p9 
(oSetIf (wantF g9) (xLook (lkIxArr (nat_lit 32) (nat_lit 1) g5 q6)) p10 
(oSetIf (wantF g9) (xLook (lkLoad1 g10)) p11 
(oSetIf (wantF g9) (xLook (lkBin .rem g11 q434)) p12 
(oSetIf (wantF g9) (xLook (lkEq false .int g12 q393)) p13 
(oSetIf (wantF g9) (xMove g13) p14 
(oSetIf (wantT g14) (xMove g0) p15 
(oSetIf (wantT g14) (xLook (lkEq false .int g15 q6)) p16 
(oSetIf (wantT g14) (xMove g16) p17 
(oSetIf (wantF g17) (xMove g1) p18 
(oSetIf (wantF g17) (xLook (lkBin .gtr g18 q16)) p19 
(oSetIf (wantT g14) (xLook (lkPick g17 q2 g19)) p20 
(oSetIf (wantF g9) (xLook (lkPick g14 g20 q0)) p21 
(oSet (xLook (lkPick g9 q2 g21)) p22 
(oSet (xMove g22) p6 
oEnd))))))))))))))))) kRet))⟩
def q435 : OpdF := kC (.func (.func (nat_lit 352)) ⟨[]⟩ ⟨[]⟩)
noncomputable def k240 : KFun := ⟨[rCellN (nat_lit 4) g4 (nat_lit 33), rTmp (nat_lit 5) g5], (kSeq (oSet (xTurn (tnBox g0)) p2 
(oSet (xTurn (tnAlloc q308)) p4 
(oSet (xMove q6) p5 
oEnd))) (kSeq (oSet (xCall q122 []) p14 
(oSet (xMove g14) p6 
oEnd)) (kSeq (oSet (xMove g6) p15 
(oSet (xLook (lkFieldAddr (nat_lit 0) g2)) p16 
(oSet (xLook (lkLoad1 g16)) p17 
(oSet (xCall q123 [g15, g17]) p18 
oEnd)))) (kSeq (oSet (xMove g6) p19 
(oSet (xLook (lkFieldAddr (nat_lit 1) g2)) p20 
(oSet (xLook (lkLoad1 g20)) p21 
(oSet (xLook (lkLen .sl g21)) p22 
(oSet (xLook (lkFieldAddr (nat_lit 2) g2)) p23 
(oSet (xLook (lkLoad1 g23)) p24 
(oSet (xLook (lkLen .sl g24)) p25 
(oSet (xLook (lkBin .add g22 g25)) p26 
(oSet (xCall q123 [g19, g26]) p27 
oEnd))))))))) (kSeq (kSeq (oSet (xLook (lkFieldAddr (nat_lit 1) g2)) p28 
(oSet (xLook (lkLoad1 g28)) p29 
(oSet (xLook (lkLen .sl g29)) p30 
(oSet (xMove q6) p31 
oEnd)))) (kBlock (nat_lit 0) (kLoop (kSeq (oSet (xLook (lkBin .lss g31 g30)) p32 
oEnd) (kSeq (kCond g32 kSkip (kExit (nat_lit 0))) (kSeq (kBlock (nat_lit 1) (kSeq (oSet (xLook (lkIxSl (nat_lit 1) g29 g31)) p33 
(oSet (xLook (lkLoad1 g33)) p34 
(oSet (xMove g34) p8 
oEnd))) (oSet (xMove g6) p35 
(oSet (xMove g8) p36 
(oSet (xCall q124 [g35, g36]) p37 
oEnd))))) (oSet (xLook (lkBin .add g31 q16)) p38 
(oSet (xMove g38) p31 
oEnd)))))))) (kSeq (kSeq (oSet (xLook (lkFieldAddr (nat_lit 2) g2)) p39 
(oSet (xLook (lkLoad1 g39)) p40 
(oSet (xLook (lkLen .sl g40)) p41 
(oSet (xMove q6) p42 
oEnd)))) (kBlock (nat_lit 2) (kLoop (kSeq (oSet (xLook (lkBin .lss g42 g41)) p43 
oEnd) (kSeq (kCond g43 kSkip (kExit (nat_lit 2))) (kSeq (kBlock (nat_lit 3) (kSeq (oSet (xLook (lkIxSl (nat_lit 33) g40 g42)) p44 
(oSet (xLook (lkLoadN (nat_lit 33) g44)) p45 
(oSet (xTurn (tnAlloc q308)) p10 
(oDo (xTurn (tnStore (nat_lit 33) g10 g45)) 
oEnd)))) (kSeq (oSet (xMove g6) p46 
(oSet (xLook (lkFieldAddr (nat_lit 0) g10)) p47 
(oSet (xLook (lkLoadN (nat_lit 32) g47)) p48 
(oSet (xCall q125 [g46, g48]) p49 
oEnd)))) (oSet (xMove g6) p50 
(oSet (xLook (lkFieldAddr (nat_lit 32) g10)) p51 
(oSet (xLook (lkLoad1 g51)) p52 
(oSet (xCall q123 [g50, g52]) p53 
oEnd))))))) (oSet (xLook (lkBin .add g42 q16)) p54 
(oSet (xMove g54) p42 
oEnd)))))))) (kSeq (oSet (xMove g6) p56 
(oSet (xCall q126 [g56]) p57 
(oSet (xMove g57) p55 
(oSet (xLook (lkExtract (nat_lit 0) g55)) p58 
(oSet (xLook (lkExtract (nat_lit 1) g55)) p59 
(oSet (xMove g58) p11 
(oSet (xMove g59) p12 
oEnd))))))) (kSeq (kSeq (oSet (xMove g12) p60 
(oSet (xLook (lkEq true .int g60 q6)) p61 
oEnd)) (kCond g61 (kSeq (oSet (xLook (lkBuild q308 [])) p62 
(oSet (xMove g12) p63 
(oDo (xTurn (tnStore (nat_lit 33) g4 g62)) 
(oSet (xMove g63) p5 
oEnd)))) kRet) kSkip)) (kSeq (oSet (xMove g1) p65 
(oSet (xMove g11) p66 
(oSet (xCall q120 [g65, g66]) p67 
(oSet (xMove g67) p64 
(oSet (xLook (lkExtract (nat_lit 0) g64)) p68 
(oSet (xLook (lkExtract (nat_lit 1) g64)) p69 
(oSet (xTurn (tnAlloc q91)) p13 
(oDo (xTurn (tnStore (nat_lit 32) g13 g68)) 
(oSet (xMove g69) p12 
oEnd))))))))) (kSeq (kDraw 
(dLook (nat_lit 0) [] [] (lkLoadN (nat_lit 32) g13) p70 
(dLook (nat_lit 1) [] [] (lkLoadN (nat_lit 3) g2) p71 
(dTurn (nat_lit 2) [(nat_lit 0)] [] true (xCall q435 [g71]) p72 
(dLook (nat_lit 3) [] [(nat_lit 2)] (lkBuild q308 [((nat_lit 0), (nat_lit 32), g70), ((nat_lit 32), (nat_lit 1), g72)]) p73 
(dLook (nat_lit 4) [] [] (lkMove g12) p74 
(dTurn (nat_lit 5) [] [(nat_lit 2)] true (xTurn (tnStore (nat_lit 33) g4 g73)) noDst 
(dLook (nat_lit 6) [] [(nat_lit 2), (nat_lit 5)] (lkMove g74) p5 (dEnd [(nat_lit 70), (nat_lit 71), (nat_lit 72), (nat_lit 73), (nat_lit 74), (nat_lit 5)]))))))))) kRet))))))))))⟩
noncomputable def k243 : KFun := ⟨[rTmp (nat_lit 2) g2], (kSeq (oSet (xMove q18) p2 
oEnd) (kSeq (oSet (xMove q18) p3 
oEnd) (kSeq (kSeq (oSet (xMove g0) p6 
(oSet (xLook (lkLen .sl g6)) p7 
(oSet (xMove q6) p8 
oEnd))) (kBlock (nat_lit 0) (kLoop (kSeq (oSet (xLook (lkBin .lss g8 g7)) p9 
oEnd) (kSeq (kCond g9 kSkip (kExit (nat_lit 0))) (kSeq (kBlock (nat_lit 1) (kSeq (oSet (xLook (lkIxSl (nat_lit 1) g6 g8)) p10 
(oSet (xLook (lkLoad1 g10)) p11 
(oSet (xMove g11) p5 
oEnd))) (oSet (xMove g3) p12 
(oSet (xMove g5) p13 
(oSet (xTurn (tnAppend (nat_lit 1) g12 g13)) p14 
(oSet (xMove g14) p3 
oEnd)))))) (oSet (xLook (lkBin .add g8 q16)) p15 
(oSet (xMove g15) p8 
oEnd)))))))) (kSeq (oSet (xMove g3) p16 
(oSet (xMove g16) p2 
oEnd)) kRet))))⟩
noncomputable def k244 : KFun := ⟨[], (kSeq (oSet (xTurn (tnBox g0)) p3 
oEnd) (kSeq (oSet (xLook (lkFieldAddr (nat_lit 0) g3)) p8 
(oSet (xLook (lkLoad1 g8)) p9 
(oSet (xMove g1) p10 
(oSet (xLook (lkLen .sl g10)) p11 
(oSet (xCall q123 [g9, g11]) p12 
oEnd))))) (kSeq (oSet (xMove g1) p13 
(oSet (xLook (lkLen .sl g13)) p14 
(oSet (xMove q6) p15 
oEnd))) (kBlock (nat_lit 0) (kLoop (kSeq (oSet (xLook (lkBin .lss g15 g14)) p16 
oEnd) (kSeq (kCond g16 kSkip (kExit (nat_lit 0))) (kSeq (kBlock (nat_lit 1) (kSeq (oSet (xLook (lkIxSl (nat_lit 1) g13 g15)) p17 
(oSet (xLook (lkLoad1 g17)) p18 
(oSet (xMove g18) p7 
oEnd))) (oSet (xMove g2) p19 
(oSet (xMove g7) p20 
(oSet (xCall g19 [g20]) p21 
oEnd))))) (oSet (xLook (lkBin .add g15 q16)) p22 
(oSet (xMove g22) p15 
oEnd))))))))))⟩
noncomputable def k245 : KFun := ⟨[], (kSeq (oSet (xTurn (tnBox g0)) p3 
oEnd) (kSeq (oSet (xLook (lkFieldAddr (nat_lit 0) g3)) p8 
(oSet (xLook (lkLoad1 g8)) p9 
(oSet (xMove g1) p10 
(oSet (xLook (lkLen .sl g10)) p11 
(oSet (xCall q123 [g9, g11]) p12 
oEnd))))) (kSeq (oSet (xMove g1) p13 
(oSet (xLook (lkLen .sl g13)) p14 
(oSet (xMove q6) p15 
oEnd))) (kBlock (nat_lit 0) (kLoop (kSeq (oSet (xLook (lkBin .lss g15 g14)) p16 
oEnd) (kSeq (kCond g16 kSkip (kExit (nat_lit 0))) (kSeq (kBlock (nat_lit 1) (kSeq (oSet (xLook (lkIxSl (nat_lit 2) g13 g15)) p17 
(oSet (xLook (lkLoadN (nat_lit 2) g17)) p18 
(oSet (xTurn (tnAlloc q52)) p7 
(oDo (xTurn (tnStore (nat_lit 2) g7 g18)) 
oEnd)))) (oSet (xMove g2) p19 
(oSet (xLook (lkLoadN (nat_lit 2) g7)) p20 
(oSet (xCall g19 [g20]) p21 
oEnd))))) (oSet (xLook (lkBin .add g15 q16)) p22 
(oSet (xMove g22) p15 
oEnd))))))))))⟩
noncomputable def k247 : KFun := ⟨[], (kSeq (oSet (xTurn (tnBox g0)) p3 
oEnd) (kSeq (oSet (xLook (lkFieldAddr (nat_lit 0) g3)) p8 
(oSet (xLook (lkLoad1 g8)) p9 
(oSet (xMove g1) p10 
(oSet (xLook (lkLen .sl g10)) p11 
(oSet (xCall q123 [g9, g11]) p12 
oEnd))))) (kSeq (oSet (xMove g1) p13 
(oSet (xLook (lkLen .sl g13)) p14 
(oSet (xMove q6) p15 
oEnd))) (kBlock (nat_lit 0) (kLoop (kSeq (oSet (xLook (lkBin .lss g15 g14)) p16 
oEnd) (kSeq (kCond g16 kSkip (kExit (nat_lit 0))) (kSeq (kBlock (nat_lit 1) (kSeq (oSet (xLook (lkIxSl (nat_lit 3) g13 g15)) p17 
(oSet (xLook (lkLoadN (nat_lit 3) g17)) p18 
(oSet (xTurn (tnAlloc q167)) p7 
(oDo (xTurn (tnStore (nat_lit 3) g7 g18)) 
oEnd)))) (oSet (xMove g2) p19 
(oSet (xLook (lkLoadN (nat_lit 3) g7)) p20 
(oSet (xCall g19 [g20]) p21 
oEnd))))) (oSet (xLook (lkBin .add g15 q16)) p22 
(oSet (xMove g22) p15 
oEnd))))))))))⟩
noncomputable def k248 : KFun := ⟨[], (kSeq (oSet (xTurn (tnBox g0)) p2 
(oSet (xTurn (tnBox g1)) p3 
oEnd)) (kSeq (oSet (xLook (lkFieldAddr (nat_lit 0) g2)) p4 
(oSet (xLook (lkLoad1 g4)) p5 
(oSet (xLook (lkFieldAddr (nat_lit 0) g3)) p6 
(oSet (xLook (lkLoad1 g6)) p7 
(oSet (xCall q124 [g5, g7]) p8 
oEnd))))) (kSeq (kSeq (oSet (xLook (lkFieldAddr (nat_lit 2) g3)) p9 
(oSet (xLook (lkLoad1 g9)) p10 
oEnd)) (kCond g10 (kSeq (oSet (xLook (lkFieldAddr (nat_lit 0) g2)) p11 
(oSet (xLook (lkLoad1 g11)) p12 
(oSet (xCall q123 [g12, q16]) p13 
oEnd))) kRet) kSkip)) (kSeq (oSet (xLook (lkFieldAddr (nat_lit 0) g2)) p14 
(oSet (xLook (lkLoad1 g14)) p15 
(oSet (xCall q123 [g15, q6]) p16 
oEnd))) (oSet (xLook (lkFieldAddr (nat_lit 0) g2)) p17 
(oSet (xLook (lkLoad1 g17)) p18 
(oSet (xLook (lkFieldAddr (nat_lit 1) g3)) p19 
(oSet (xLook (lkLoad1 g19)) p20 
(oSet (xCall q124 [g18, g20]) p21 
oEnd)))))))))⟩
noncomputable def k249 : KFun := ⟨[], (kSeq (oSet (xMove q38) p2 
oEnd) (kBlock (nat_lit 0) (kLoop (kSeq (kSeq (oSet (xMove g0) p3 
(oSet (xMove g2) p4 
(oSet (xCall g3 [g4]) p5 
oEnd))) (kCond g5 kSkip (kExit (nat_lit 0)))) (kSeq (kBlock (nat_lit 1) kSkip) (oSet (xMove g2) p6 
(oSet (xLook (lkBin .add g6 q38)) p7 
(oSet (xMove g7) p2 
oEnd))))))))⟩
noncomputable def k257d0 : KD := 
(dLook (nat_lit 19) [] [(nat_lit 3)] (lkPick g22 q2 g35) p36 (dEnd [(nat_lit 17), (nat_lit 18), (nat_lit 19), (nat_lit 20), (nat_lit 21), (nat_lit 22), (nat_lit 23), (nat_lit 24), (nat_lit 25), (nat_lit 26), (nat_lit 27), (nat_lit 28), (nat_lit 29), (nat_lit 30), (nat_lit 31), (nat_lit 32), (nat_lit 33), (nat_lit 34), (nat_lit 35), (nat_lit 36)]))
noncomputable def k257d1 : KD := 
(dIf [(nat_lit 3)] (wantF g22) p35 (dLook (nat_lit 18) [] [(nat_lit 3)] (lkPick g25 g34 q0) p35 k257d0) k257d0)
noncomputable def k257d2 : KD := 
(dIf [(nat_lit 3)] (wantT g25) p34 (dLook (nat_lit 17) [] [(nat_lit 3)] (lkBin .leq g27 g33) p34 k257d1) k257d1)
noncomputable def k257d3 : KD := 
(dIf [(nat_lit 3)] (wantT g25) p33 (dLook (nat_lit 16) [] [(nat_lit 3)] (lkLoad1 g32) p33 k257d2) k257d2)
noncomputable def k257d4 : KD := 
(dIf [(nat_lit 3)] (wantT g25) p32 (dLook (nat_lit 15) [] [(nat_lit 3)] (lkFieldAddr (nat_lit 0) g31) p32 k257d3) k257d3)
noncomputable def k257d5 : KD := 
(dIf [(nat_lit 3)] (wantT g25) p31 (dLook (nat_lit 14) [] [(nat_lit 3)] (lkIxSl (nat_lit 33) g28 g30) p31 k257d4) k257d4)
noncomputable def k257d6 : KD := 
(dIf [(nat_lit 3)] (wantT g25) p30 (dLook (nat_lit 13) [] [(nat_lit 3)] (lkBin .sub g29 q16) p30 k257d5) k257d5)
noncomputable def k257d7 : KD := 
(dIf [(nat_lit 3)] (wantT g25) p29 (dLook (nat_lit 12) [] [(nat_lit 3)] (lkMove g5) p29 k257d6) k257d6)
noncomputable def k257d8 : KD := 
(dIf [(nat_lit 3)] (wantT g25) p28 (dLook (nat_lit 11) [] [(nat_lit 3)] (lkMove g0) p28 k257d7) k257d7)
noncomputable def k257d9 : KD := 
(dIf [(nat_lit 3)] (wantT g25) p27 (dLook (nat_lit 10) [] [(nat_lit 3)] (lkLoad1 g26) p27 k257d8) k257d8)
noncomputable def k257d10 : KD := 
(dIf [(nat_lit 3)] (wantT g25) p26 (dLook (nat_lit 9) [] [(nat_lit 3)] (lkFieldAddr (nat_lit 0) g6) p26 k257d9) k257d9)
noncomputable def k257d11 : KD := 
(dIf [(nat_lit 3)] (wantF g22) p25 (dLook (nat_lit 8) [] [(nat_lit 3)] (lkMove g24) p25 k257d10) k257d10)
noncomputable def k257d12 : KD := 
(dIf [(nat_lit 3)] (wantF g22) p24 (dLook (nat_lit 7) [] [(nat_lit 3)] (lkBin .gtr g23 q6) p24 k257d11) k257d11)
def q446 : OpdF := kC (.func (.func (nat_lit 359)) ⟨[]⟩ ⟨[]⟩)
noncomputable def k257 : KFun := ⟨[rTmp (nat_lit 4) g4], (kSeq (oSet (xMove q6) p4 
oEnd) (kSeq (kSeq (oSet (xMove g1) p7 
(oSet (xCall q204 [g7]) p8 
(oSet (xLook (lkUn .not g8)) p9 
oEnd))) (kCond g9 (kSeq (oSet (xMove q77) p4 
oEnd) kRet) kSkip)) (kSeq (kSeq (oSet (xMove g0) p10 
(oSet (xLook (lkLen .sl g10)) p11 
(oSet (xMove q6) p12 
oEnd))) (kBlock (nat_lit 0) (kLoop (kSeq (oSet (xLook (lkBin .lss g12 g11)) p13 
oEnd) (kSeq (kCond g13 kSkip (kExit (nat_lit 0))) (kSeq (kBlock (nat_lit 1) (kSeq (oSet (xMove g12) p14 
(oSet (xLook (lkIxSl (nat_lit 33) g10 g12)) p15 
(oSet (xLook (lkLoadN (nat_lit 33) g15)) p16 
(oSet (xTurn (tnAlloc q92)) p6 
(oSet (xMove g14) p5 
(oDo (xTurn (tnStore (nat_lit 33) g6 g16)) 
oEnd)))))) (kSeq (kDraw 
(dLook (nat_lit 0) [] [] (lkFieldAddr (nat_lit 0) g6) p17 
(dLook (nat_lit 1) [] [] (lkLoad1 g17) p18 
(dLook (nat_lit 2) [] [] (lkMove g1) p19 
(dTurn (nat_lit 3) [] [] true (xCall q446 [g18, g19]) p20 
(dLook (nat_lit 4) [] [(nat_lit 3)] (lkUn .not g20) p21 
(dLook (nat_lit 5) [] [(nat_lit 3)] (lkMove g21) p22 
(dIf [(nat_lit 3)] (wantF g22) p23 (dLook (nat_lit 6) [] [(nat_lit 3)] (lkMove g5) p23 k257d12) k257d12)))))))) (kCond g36 (kSeq (oSet (xMove q35) p4 
oEnd) kRet) kSkip)))) (oSet (xLook (lkBin .add g12 q16)) p37 
(oSet (xMove g37) p12 
oEnd)))))))) (kSeq (oSet (xMove q6) p4 
oEnd) kRet))))⟩
noncomputable def k259 : KFun := ⟨[rTmp (nat_lit 4) g4], (kSeq (oSet (xMove q6) p4 
oEnd) (kSeq (oSet (xMove g0) p8 
(oSet (xMove q6) p5 
(oSet (xMove g8) p6 
oEnd))) (kSeq (kBlock (nat_lit 0) (kLoop (kSeq (kSeq (oSet (xMove g5) p9 
(oSet (xMove g6) p10 
(oSet (xLook (lkBin .lss g9 g10)) p11 
oEnd))) (kCond g11 kSkip (kExit (nat_lit 0)))) (kBlock (nat_lit 1) (kSeq (oSet (xMove g5) p12 
(oSet (xMove g6) p13 
(oSet (xLook (lkBin .add g12 g13)) p14 
(oSet (xLook (lkIntTo .u64 g14)) p15 
(oSet (xLook (lkBin .shr g15 q344)) p16 
(oSet (xLook (lkIntTo .i64 g16)) p17 
(oSet (xMove g17) p7 
oEnd))))))) (kSeq (oSet (xMove g1) p18 
(oSet (xMove g7) p19 
(oSet (xCall g18 [g19]) p20 
(oSet (xLook (lkUn .not g20)) p21 
oEnd)))) (kCond g21 (oSet (xMove g7) p22 
(oSet (xLook (lkBin .add g22 q16)) p23 
(oSet (xMove g23) p5 
oEnd))) (oSet (xMove g7) p24 
(oSet (xMove g24) p6 
oEnd))))))))) (kSeq (oSet (xMove g5) p25 
(oSet (xMove g25) p4 
oEnd)) kRet))))⟩
def q447 : OpdF := kC (.func (.func (nat_lit 263)) ⟨[]⟩ ⟨[]⟩)
def q448 : OpdF := kC (.func (.func (nat_lit 264)) ⟨[]⟩ ⟨[]⟩)
noncomputable def k262 : KFun := ⟨[], (kSeq (oSet (xLook (lkLoad1 g1)) p5 
(oSet (xLook (lkLoadN (nat_lit 32) g2)) p6 
(oSet (xCall q447 [g5, g6]) p7 
(oSet (xTurn (tnAlloc q197)) p4 
(oDo (xTurn (tnStore (nat_lit 3) g4 g7)) 
oEnd))))) (kSeq (oSet (xLook (lkLoad1 g1)) p8 
(oSet (xNil g8) p9 
(oSet (xLook (lkFieldAddr (nat_lit 1) g9)) p10 
(oSet (xLook (lkLoad1 g10)) p11 
(oSet (xLook (lkEq false .int g11 q6)) p12 
oEnd))))) (kCond g12 (oSet (xLook (lkLoad1 g1)) p13 
(oSet (xLook (lkLoadN (nat_lit 3) g4)) p14 
(oSet (xMove g0) p15 
(oSet (xCall q448 [g13, g14, q6, g15]) p16 
oEnd)))) kSkip)))⟩
def q449 : OpdF := kC (.func (.func (nat_lit 360)) ⟨[]⟩ ⟨[]⟩)
noncomputable def k263 : KFun := ⟨[rCellN (nat_lit 4) g4 (nat_lit 3)], (kSeq (oSet (xTurn (tnBox g1)) p3 
(oSet (xTurn (tnAlloc q197)) p4 
oEnd)) (kSeq (kDraw 
(dLook (nat_lit 0) [] [] (lkMove g0) p10 
(dTurn (nat_lit 1) [] [] false (xNil g10) p11 
(dLook (nat_lit 2) [] [] (lkFieldAddr (nat_lit 0) g11) p12 
(dLook (nat_lit 3) [] [] (lkLoad1 g12) p13 
(dLook (nat_lit 4) [] [] (lkLoadN (nat_lit 32) g3) p14 
(dTurn (nat_lit 5) [] [] true (xCall q144 [g13, g14]) p15 
(dLook (nat_lit 6) [] [(nat_lit 5)] (lkMove g15) p9 
(dLook (nat_lit 7) [] [(nat_lit 5)] (lkExtract (nat_lit 0) g9) p16 
(dLook (nat_lit 8) [] [(nat_lit 5)] (lkExtract (nat_lit 1) g9) p17 
(dLook (nat_lit 9) [] [(nat_lit 5)] (lkMove g16) p5 
(dLook (nat_lit 10) [] [(nat_lit 5)] (lkMove g17) p6 (dEnd [(nat_lit 10), (nat_lit 11), (nat_lit 12), (nat_lit 13), (nat_lit 14), (nat_lit 15), (nat_lit 9), (nat_lit 16), (nat_lit 17), (nat_lit 5), (nat_lit 6)]))))))))))))) (kSeq (kSeq (oSet (xMove g6) p18 
(oSet (xLook (lkEq true .int g18 q6)) p19 
oEnd)) (kCond g19 (kSeq (oSet (xMove g0) p20 
(oSet (xMove g6) p21 
(oSet (xCall q449 [g20, g21]) p22 
oEnd))) (kSeq (oSet (xLook (lkBuild q197 [])) p23 
(oDo (xTurn (tnStore (nat_lit 3) g4 g23)) 
oEnd)) kRet)) kSkip)) (kSeq (oSet (xMove g5) p24 
(oSet (xCall q154 [g24]) p25 
(oSet (xMove g25) p7 
oEnd))) (kSeq (oSet (xMove g7) p26 
(oSet (xCall q280 [g26, q6, q112]) p27 
(oSet (xLook (lkBuild q197 [((nat_lit 0), (nat_lit 1), g27)])) p28 
(oSet (xTurn (tnAlloc q197)) p8 
(oDo (xTurn (tnStore (nat_lit 3) g8 g28)) 
oEnd))))) (kSeq (kSeq (oSet (xMove g7) p29 
(oSet (xCall q155 [g29, q38]) p30 
(oSet (xMove q6) p31 
oEnd))) (kBlock (nat_lit 0) (kLoop (kSeq (oSet (xLook (lkBin .lss g31 g30)) p32 
oEnd) (kSeq (kCond g32 kSkip (kExit (nat_lit 0))) (kSeq (kBlock (nat_lit 1) (kSeq (oSet (xLook (lkFieldAddr (nat_lit 0) g8)) p33 
(oSet (xLook (lkLoad1 g33)) p34 
(oSet (xLook (lkEq false .int g34 q6)) p35 
oEnd))) (kCond g35 (kDraw 
(dLook (nat_lit 0) [] [] (lkFieldAddr (nat_lit 1) g8) p36 
(dLook (nat_lit 1) [] [] (lkLoad1 g36) p37 
(dLook (nat_lit 2) [] [] (lkMove g7) p38 
(dTurn (nat_lit 3) [(nat_lit 1)] [] true (xCall q284 [g38, q305]) p39 
(dTurn (nat_lit 4) [] [(nat_lit 3)] false (xTurn (tnBuildSlice q200 [((nat_lit 0), (nat_lit 1), g39)] (nat_lit 1))) p40 
(dTurn (nat_lit 5) [] [(nat_lit 3)] true (xTurn (tnAppend (nat_lit 1) g37 g40)) p41 
(dLook (nat_lit 6) [] [(nat_lit 3), (nat_lit 5)] (lkFieldAddr (nat_lit 1) g8) p42 
(dTurn (nat_lit 7) [] [(nat_lit 3), (nat_lit 5)] true (xTurn (tnStore (nat_lit 1) g42 g41)) noDst (dEnd [(nat_lit 36), (nat_lit 37), (nat_lit 38), (nat_lit 39), (nat_lit 40), (nat_lit 41), (nat_lit 42)])))))))))) (kDraw 
(dLook (nat_lit 0) [] [] (lkFieldAddr (nat_lit 2) g8) p43 
(dLook (nat_lit 1) [] [] (lkLoad1 g43) p44 
(dLook (nat_lit 2) [] [] (lkMove g7) p45 
(dTurn (nat_lit 3) [(nat_lit 1)] [] true (xCall q383 [g45]) p46 
(dLook (nat_lit 4) [] [] (lkMove g7) p47 
(dTurn (nat_lit 5) [(nat_lit 1)] [(nat_lit 3)] true (xCall q280 [g47, q16, q192]) p48 
(dLook (nat_lit 6) [] [(nat_lit 3), (nat_lit 5)] (lkBuild q308 [((nat_lit 0), (nat_lit 32), g46), ((nat_lit 32), (nat_lit 1), g48)]) p49 
(dTurn (nat_lit 7) [] [(nat_lit 3), (nat_lit 5)] false (xTurn (tnBuildSlice q308 [((nat_lit 0), (nat_lit 33), g49)] (nat_lit 1))) p50 
(dTurn (nat_lit 8) [] [(nat_lit 3), (nat_lit 5)] true (xTurn (tnAppend (nat_lit 33) g44 g50)) p51 
(dLook (nat_lit 9) [] [(nat_lit 3), (nat_lit 5), (nat_lit 8)] (lkFieldAddr (nat_lit 2) g8) p52 
(dTurn (nat_lit 10) [] [(nat_lit 3), (nat_lit 5), (nat_lit 8)] true (xTurn (tnStore (nat_lit 1) g52 g51)) noDst (dEnd [(nat_lit 43), (nat_lit 44), (nat_lit 45), (nat_lit 46), (nat_lit 47), (nat_lit 48), (nat_lit 49), (nat_lit 50), (nat_lit 51), (nat_lit 52)])))))))))))))))) (oSet (xLook (lkBin .add g31 q16)) p53 
(oSet (xMove g53) p31 
oEnd)))))))) (kSeq (kSeq (oSet (xMove g7) p54 
(oSet (xCall q267 [g54]) p55 
(oSet (xLook (lkField1 (nat_lit 0) g55)) p56 
(oSet (xLook (lkEq true .int g56 q6)) p57 
(oSet (xMove g57) p58 
(oSetIf (wantF g58) (xLook (lkFieldAddr (nat_lit 0) g8)) p59 
(oSetIf (wantF g58) (xLook (lkLoad1 g59)) p60 
(oSetIf (wantF g58) (xLook (lkBin .gtr g60 q6)) p61 
(oSetIf (wantF g58) (xMove g61) p62 
(oSetIf (wantT g62) (xLook (lkFieldAddr (nat_lit 2) g8)) p63 
(oSetIf (wantT g62) (xLook (lkLoad1 g63)) p64 
(oSetIf (wantT g62) (xLook (lkLen .sl g64)) p65 
(oSetIf (wantT g62) (xLook (lkEq false .int g65 q6)) p66 
(oSetIf (wantF g58) (xLook (lkPick g62 g66 q0)) p67 
(oSet (xLook (lkPick g58 q2 g67)) p68 
(oSet (xMove g68) p69 
(oSetIf (wantF g69) (xLook (lkLoadN (nat_lit 3) g8)) p70 
(oSetIf (wantF g69) (xCall q435 [g70]) p71 
(oSetIf (wantF g69) (xLook (lkBin .gtr g71 q192)) p72 
(oSet (xLook (lkPick g69 q2 g72)) p73 
oEnd)))))))))))))))))))) (kCond g73 (kSeq (oSet (xMove g0) p74 
(oSet (xCall q449 [g74, q67]) p75 
oEnd)) (kSeq (oSet (xLook (lkBuild q197 [])) p76 
(oDo (xTurn (tnStore (nat_lit 3) g4 g76)) 
oEnd)) kRet)) kSkip)) (kSeq (kDraw 
(dLook (nat_lit 0) [] [] (lkMove g0) p77 
(dTurn (nat_lit 1) [] [] false (xNil g77) p78 
(dLook (nat_lit 2) [] [] (lkFieldAddr (nat_lit 2) g78) p79 
(dLook (nat_lit 3) [] [] (lkLoad1 g79) p80 
(dLook (nat_lit 4) [] [] (lkLoadN (nat_lit 32) g3) p81 
(dLook (nat_lit 5) [] [] (lkBuild [] []) p82 
(dTurn (nat_lit 6) [] [] true (xTurn (tnMapUpdate (.many (nat_lit 32) .u8) g80 g81 g82)) noDst (dEnd [(nat_lit 77), (nat_lit 78), (nat_lit 79), (nat_lit 80), (nat_lit 81), (nat_lit 82)]))))))))) (kSeq (oSet (xLook (lkLoadN (nat_lit 3) g8)) p83 
(oDo (xTurn (tnStore (nat_lit 3) g4 g83)) 
oEnd)) kRet)))))))))⟩
noncomputable def k264d0 : KD := 
(dLook (nat_lit 19) [] [(nat_lit 14)] (lkPick g46 g59 q0) p60 (dEnd [(nat_lit 41), (nat_lit 42), (nat_lit 43), (nat_lit 44), (nat_lit 45), (nat_lit 46), (nat_lit 47), (nat_lit 48), (nat_lit 49), (nat_lit 50), (nat_lit 51), (nat_lit 52), (nat_lit 53), (nat_lit 54), (nat_lit 55), (nat_lit 56), (nat_lit 57), (nat_lit 58), (nat_lit 59), (nat_lit 60)]))
noncomputable def k264d1 : KD := 
(dIf [(nat_lit 14)] (wantT g46) p59 (dLook (nat_lit 18) [] [(nat_lit 14)] (lkPick g53 q2 g58) p59 k264d0) k264d0)
noncomputable def k264d2 : KD := 
(dIf [(nat_lit 14)] (wantF g53) p58 (dLook (nat_lit 17) [] [(nat_lit 14)] (lkEq true .int g55 g57) p58 k264d1) k264d1)
noncomputable def k264d3 : KD := 
(dIf [] (wantF g53) p57 (dLook (nat_lit 16) [(nat_lit 14)] [] (lkLoad1 g56) p57 k264d2) k264d2)
noncomputable def k264d4 : KD := 
(dIf [] (wantF g53) p56 (dLook (nat_lit 15) [] [] (lkFieldAddr (nat_lit 32) g12) p56 k264d3) k264d3)
noncomputable def k264d5 : KD := 
(dIf [] (wantF g53) p55 (dTurn (nat_lit 14) [] [] true (xCall q435 [g54]) p55 k264d4) k264d4)
noncomputable def k264d6 : KD := 
(dIf [] (wantF g53) p54 (dLook (nat_lit 13) [] [] (lkLoadN (nat_lit 3) g13) p54 k264d5) k264d5)
noncomputable def k264d7 : KD := 
(dIf [] (wantT g46) p53 (dLook (nat_lit 12) [] [] (lkMove g52) p53 k264d6) k264d6)
noncomputable def k264d8 : KD := 
(dIf [] (wantT g46) p52 (dLook (nat_lit 11) [] [] (lkEq true .int g48 g51) p52 k264d7) k264d7)
noncomputable def k264d9 : KD := 
(dIf [] (wantT g46) p51 (dLook (nat_lit 10) [] [] (lkBin .sub g50 q16) p51 k264d8) k264d8)
noncomputable def k264d10 : KD := 
(dIf [] (wantT g46) p50 (dLook (nat_lit 9) [] [] (lkLoad1 g49) p50 k264d9) k264d9)
noncomputable def k264d11 : KD := 
(dIf [] (wantT g46) p49 (dLook (nat_lit 8) [] [] (lkFieldAddr (nat_lit 0) g5) p49 k264d10) k264d10)
noncomputable def k264d12 : KD := 
(dIf [] (wantT g46) p48 (dLook (nat_lit 7) [] [] (lkLoad1 g47) p48 k264d11) k264d11)
noncomputable def k264 : KFun := ⟨[rTmp (nat_lit 8) g8], (kSeq (oSet (xTurn (tnBox g1)) p5 
(oSet (xMove q0) p8 
oEnd)) (kSeq (kSeq (oSet (xLook (lkFieldAddr (nat_lit 1) g5)) p14 
(oSet (xLook (lkLoad1 g14)) p15 
(oSet (xLook (lkLen .sl g15)) p16 
(oSet (xMove q6) p17 
oEnd)))) (kBlock (nat_lit 0) (kLoop (kSeq (oSet (xLook (lkBin .lss g17 g16)) p18 
oEnd) (kSeq (kCond g18 kSkip (kExit (nat_lit 0))) (kSeq (kBlock (nat_lit 1) (kSeq (oSet (xMove g17) p19 
(oSet (xLook (lkIxSl (nat_lit 1) g15 g17)) p20 
(oSet (xLook (lkLoad1 g20)) p21 
(oSet (xMove g19) p9 
(oSet (xMove g21) p10 
oEnd))))) (kSeq (oSet (xMove g3) p22 
(oSet (xMove g2) p23 
(oSet (xMove g9) p24 
(oSet (xLook (lkBin .add g23 g24)) p25 
(oSet (xMove g10) p26 
(oSet (xCall g22 [g25, g26]) p27 
(oSet (xLook (lkUn .not g27)) p28 
oEnd))))))) (kCond g28 (kSeq (oSet (xMove q0) p8 
oEnd) kRet) kSkip)))) (oSet (xLook (lkBin .add g17 q16)) p29 
(oSet (xMove g29) p17 
oEnd)))))))) (kSeq (kSeq (oSet (xLook (lkFieldAddr (nat_lit 2) g5)) p30 
(oSet (xLook (lkLoad1 g30)) p31 
(oSet (xLook (lkLen .sl g31)) p32 
(oSet (xMove q6) p33 
oEnd)))) (kBlock (nat_lit 2) (kLoop (kSeq (oSet (xLook (lkBin .lss g33 g32)) p34 
oEnd) (kSeq (kCond g34 kSkip (kExit (nat_lit 2))) (kSeq (kBlock (nat_lit 3) (kSeq (oSet (xLook (lkIxSl (nat_lit 33) g31 g33)) p35 
(oSet (xLook (lkLoadN (nat_lit 33) g35)) p36 
(oSet (xTurn (tnAlloc q308)) p12 
(oDo (xTurn (tnStore (nat_lit 33) g12 g36)) 
oEnd)))) (kSeq (oSet (xMove g0) p37 
(oSet (xLook (lkFieldAddr (nat_lit 0) g12)) p38 
(oSet (xLook (lkLoadN (nat_lit 32) g38)) p39 
(oSet (xCall q447 [g37, g39]) p40 
(oSet (xTurn (tnAlloc q197)) p13 
(oDo (xTurn (tnStore (nat_lit 3) g13 g40)) 
oEnd)))))) (kSeq (kSeq (kDraw 
(dLook (nat_lit 0) [] [] (lkMove g0) p41 
(dTurn (nat_lit 1) [] [] false (xNil g41) p42 
(dLook (nat_lit 2) [] [] (lkFieldAddr (nat_lit 1) g42) p43 
(dLook (nat_lit 3) [] [] (lkLoad1 g43) p44 
(dLook (nat_lit 4) [] [] (lkEq false .int g44 q6) p45 
(dLook (nat_lit 5) [] [] (lkMove g45) p46 
(dIf [] (wantT g46) p47 (dLook (nat_lit 6) [] [] (lkFieldAddr (nat_lit 0) g13) p47 k264d12) k264d12)))))))) (kCond g60 (oSet (xMove g0) p61 
(oSet (xCall q449 [g61, q67]) p62 
oEnd)) kSkip)) (kSeq (kSeq (oSet (xMove g0) p63 
(oSet (xNil g63) p64 
(oSet (xLook (lkFieldAddr (nat_lit 1) g64)) p65 
(oSet (xLook (lkLoad1 g65)) p66 
(oSet (xLook (lkEq true .int g66 q6)) p67 
(oSet (xMove g67) p68 
(oSetIf (wantF g68) (xMove g0) p69 
(oSetIf (wantF g68) (xLook (lkLoadN (nat_lit 3) g13)) p70 
(oSetIf (wantF g68) (xMove g2) p71 
(oSetIf (wantF g68) (xMove g3) p72 
(oSetIf (wantF g68) (xCall q448 [g69, g70, g71, g72]) p73 
(oSetIf (wantF g68) (xLook (lkUn .not g73)) p74 
(oSet (xLook (lkPick g68 q2 g74)) p75 
oEnd))))))))))))) (kCond g75 (kSeq (oSet (xMove q0) p8 
oEnd) kRet) kSkip)) (oSet (xMove g2) p76 
(oSet (xLook (lkFieldAddr (nat_lit 32) g12)) p77 
(oSet (xLook (lkLoad1 g77)) p78 
(oSet (xLook (lkBin .add g76 g78)) p79 
(oSet (xMove g79) p2 
oEnd)))))))))) (oSet (xLook (lkBin .add g33 q16)) p80 
(oSet (xMove g80) p33 
oEnd)))))))) (kSeq (oSet (xMove q2) p8 
oEnd) kRet))))⟩
def q454 : OpdF := kC (.int .i64 (.ofNat (nat_lit 50)))
def q458 : OpdF := kC (.int .u64 (.ofNat (nat_lit 16)))
def q460 : OpdF := kC (.string ⟨⟨[0, 1, 2, 2, 3, 3, 3, 3, 4, 4, 4, 4, 4, 4, 4, 4, 5, 5, 5, 5, 5, 5, 5, 5, 5, 5, 5, 5, 5, 5, 5, 5, 6, 6, 6, 6, 6, 6, 6, 6, 6, 6, 6, 6, 6, 6, 6, 6, 6, 6, 6, 6, 6, 6, 6, 6, 6, 6, 6, 6, 6, 6, 6, 6, 7, 7, 7, 7, 7, 7, 7, 7, 7, 7, 7, 7, 7, 7, 7, 7, 7, 7, 7, 7, 7, 7, 7, 7, 7, 7, 7, 7, 7, 7, 7, 7, 7, 7, 7, 7, 7, 7, 7, 7, 7, 7, 7, 7, 7, 7, 7, 7, 7, 7, 7, 7, 7, 7, 7, 7, 7, 7, 7, 7, 7, 7, 7, 7, 8, 8, 8, 8, 8, 8, 8, 8, 8, 8, 8, 8, 8, 8, 8, 8, 8, 8, 8, 8, 8, 8, 8, 8, 8, 8, 8, 8, 8, 8, 8, 8, 8, 8, 8, 8, 8, 8, 8, 8, 8, 8, 8, 8, 8, 8, 8, 8, 8, 8, 8, 8, 8, 8, 8, 8, 8, 8, 8, 8, 8, 8, 8, 8, 8, 8, 8, 8, 8, 8, 8, 8, 8, 8, 8, 8, 8, 8, 8, 8, 8, 8, 8, 8, 8, 8, 8, 8, 8, 8, 8, 8, 8, 8, 8, 8, 8, 8, 8, 8, 8, 8, 8, 8, 8, 8, 8, 8, 8, 8, 8, 8, 8, 8, 8, 8, 8, 8, 8, 8, 8, 8, 8, 8, 8, 8, 8, 8]⟩⟩)
def q461 : OpdF := kC (.int .u64 (.ofNat (nat_lit 4294967296)))
def q462 : OpdF := kC (.int .u64 (.ofNat (nat_lit 32)))
def q463 : OpdF := kC (.int .u64 (.ofNat (nat_lit 65536)))
def q464 : OpdF := kC (.int .u64 (.ofNat (nat_lit 256)))
noncomputable def k274 : KFun := ⟨[rTmp (nat_lit 2) g2], (kSeq (oSet (xMove q6) p2 
oEnd) (kSeq (kSeq (oSet (xMove g0) p3 
(oSet (xLook (lkBin .geq g3 q461)) p4 
oEnd)) (kCond g4 (kSeq (oSet (xMove g0) p5 
(oSet (xLook (lkBin .shr g5 q462)) p6 
(oSet (xMove g6) p0 
oEnd))) (oSet (xMove q289) p2 
oEnd)) kSkip)) (kSeq (kSeq (oSet (xMove g0) p7 
(oSet (xLook (lkBin .geq g7 q463)) p8 
oEnd)) (kCond g8 (kSeq (oSet (xMove g0) p9 
(oSet (xLook (lkBin .shr g9 q458)) p10 
(oSet (xMove g10) p0 
oEnd))) (oSet (xMove g2) p11 
(oSet (xLook (lkBin .add g11 q37)) p12 
(oSet (xMove g12) p2 
oEnd)))) kSkip)) (kSeq (kSeq (oSet (xMove g0) p13 
(oSet (xLook (lkBin .geq g13 q464)) p14 
oEnd)) (kCond g14 (kSeq (oSet (xMove g0) p15 
(oSet (xLook (lkBin .shr g15 q358)) p16 
(oSet (xMove g16) p0 
oEnd))) (oSet (xMove g2) p17 
(oSet (xLook (lkBin .add g17 q38)) p18 
(oSet (xMove g18) p2 
oEnd)))) kSkip)) (kSeq (oSet (xMove g2) p19 
(oSet (xMove g0) p20 
(oSet (xLook (lkIntTo .u8 g20)) p21 
(oSet (xLook (lkIxStr q460 g21)) p22 
(oSet (xLook (lkIntTo .i64 g22)) p23 
(oSet (xLook (lkBin .add g19 g23)) p24 
(oSet (xMove g24) p2 
oEnd))))))) kRet)))))⟩
def q466 : OpdF := kC (.func (.func (nat_lit 367)) ⟨[]⟩ ⟨[]⟩)
noncomputable def k279 : KFun := ⟨[rTmp (nat_lit 4) g4], (kSeq (oSet (xMove q6) p4 
oEnd) (kSeq (oSet (xMove g0) p5 
(oSet (xMove g1) p6 
(oSet (xCall q466 [g5, g6]) p7 
(oSet (xMove g7) p4 
oEnd)))) kRet))⟩
noncomputable def k280 : KFun := ⟨[rTmp (nat_lit 4) g4], (kSeq (oSet (xMove q0) p4 
oEnd) (kSeq (oSet (xMove g0) p5 
(oSet (xMove g1) p6 
(oSet (xNil g5) p7 
(oSet (xLook (lkIxArr (nat_lit 256) (nat_lit 1) g7 g6)) p8 
(oSet (xLook (lkLoad1 g8)) p9 
(oSet (xMove g9) p4 
oEnd)))))) kRet))⟩
noncomputable def k284 : KFun := ⟨[], (kSeq (oSet (xLook (lkLoad1 g1)) p8 
(oSet (xLook (lkLen .sl g8)) p9 
(oSet (xMove q6) p10 
oEnd))) (kBlock (nat_lit 0) (kLoop (kSeq (oSet (xLook (lkBin .lss g10 g9)) p11 
oEnd) (kSeq (kCond g11 kSkip (kExit (nat_lit 0))) (kSeq (kBlock (nat_lit 1) (kSeq (oSet (xMove g10) p12 
(oSet (xLook (lkIxSl (nat_lit 1) g8 g10)) p13 
(oSet (xLook (lkLoad1 g13)) p14 
(oSet (xMove g12) p4 
(oSet (xMove g14) p5 
oEnd))))) (kSeq (oSet (xMove g5) p16 
(oSet (xLook (lkLoad1 g2)) p17 
(oSet (xNil g17) p18 
(oSet (xLook (lkFieldAddr (nat_lit 0) g18)) p19 
(oSet (xLook (lkFieldAddr (nat_lit 0) g19)) p20 
(oSet (xLook (lkLoad1 g20)) p21 
(oSet (xCall q169 [g16, g21]) p22 
(oSet (xMove g22) p15 
(oSet (xLook (lkExtract (nat_lit 0) g15)) p23 
(oSet (xLook (lkExtract (nat_lit 1) g15)) p24 
(oSet (xTurn (tnAlloc q68)) p6 
(oDo (xTurn (tnStore (nat_lit 5) g6 g23)) 
(oSet (xMove g24) p7 
oEnd))))))))))))) (kSeq (kSeq (oSet (xMove g7) p25 
(oSet (xLook (lkEq true .int g25 q6)) p26 
oEnd)) (kCond g26 (oSet (xLook (lkLoad1 g2)) p27 
(oSet (xMove g7) p28 
(oSet (xNil g27) p29 
(oSet (xLook (lkFieldAddr (nat_lit 0) g29)) p30 
(oSet (xLook (lkFieldAddr (nat_lit 1) g30)) p31 
(oDo (xTurn (tnStore (nat_lit 1) g31 g28)) 
oEnd)))))) kSkip)) (kSeq (kDraw 
(dLook (nat_lit 0) [] [] (lkLoad1 g2) p32 
(dTurn (nat_lit 1) [] [] false (xNil g32) p33 
(dLook (nat_lit 2) [] [] (lkFieldAddr (nat_lit 0) g33) p34 
(dLook (nat_lit 3) [] [] (lkFieldAddr (nat_lit 4) g6) p35 
(dLook (nat_lit 4) [] [] (lkLoad1 g35) p36 
(dTurn (nat_lit 5) [] [] true (xCall q209 [g34, g36]) p37 (dEnd [(nat_lit 32), (nat_lit 33), (nat_lit 34), (nat_lit 35), (nat_lit 36), (nat_lit 37)])))))))) (kSeq (oSet (xLook (lkLoad1 g2)) p38 
(oSet (xNil g38) p39 
(oSet (xLook (lkFieldAddr (nat_lit 0) g39)) p40 
(oSet (xLook (lkFieldAddr (nat_lit 1) g40)) p41 
(oSet (xLook (lkLoad1 g41)) p42 
(oSet (xLook (lkEq true .int g42 q6)) p43 
(oSet (xMove g43) p44 
(oSetIf (wantF g44) (xMove g0) p45 
(oSetIf (wantF g44) (xMove g4) p46 
(oSetIf (wantF g44) (xLook (lkLoadN (nat_lit 5) g6)) p47 
(oSetIf (wantF g44) (xCall g45 [g46, g47]) p48 
(oSetIf (wantF g44) (xLook (lkUn .not g48)) p49 
(oSet (xLook (lkPick g44 q2 g49)) p50 
oEnd))))))))))))) (kCond g50 kRet kSkip))))))) (oSet (xLook (lkBin .add g10 q16)) p51 
(oSet (xMove g51) p10 
oEnd))))))))⟩
def q472 : List Value := [(.int .u32 (.ofNat (nat_lit 0))), (.int .u32 (.ofNat (nat_lit 0))), (.int .u32 (.ofNat (nat_lit 0))), (.int .u32 (.ofNat (nat_lit 0))), (.int .u32 (.ofNat (nat_lit 0))), (.int .u32 (.ofNat (nat_lit 0))), (.int .u32 (.ofNat (nat_lit 0))), (.int .u32 (.ofNat (nat_lit 0)))]
def q473 : OpdF := kC (.int .u32 (.ofNat (nat_lit 1779033703)))
def q474 : OpdF := kC (.int .u32 (.ofNat (nat_lit 3144134277)))
def q475 : OpdF := kC (.int .u32 (.ofNat (nat_lit 1013904242)))
def q476 : OpdF := kC (.int .u32 (.ofNat (nat_lit 2773480762)))
def q477 : OpdF := kC (.int .u32 (.ofNat (nat_lit 1359893119)))
def q478 : OpdF := kC (.int .u32 (.ofNat (nat_lit 2600822924)))
def q479 : OpdF := kC (.int .u32 (.ofNat (nat_lit 528734635)))
def q480 : OpdF := kC (.int .u32 (.ofNat (nat_lit 1541459225)))
noncomputable def k285 : KFun := ⟨[rCellN (nat_lit 0) g0 (nat_lit 8)], (kSeq (oSet (xTurn (tnAlloc q472)) p0 
oEnd) (kSeq (oSet (xLook (lkBuild q472 [((nat_lit 0), (nat_lit 1), q473), ((nat_lit 1), (nat_lit 1), q474), ((nat_lit 2), (nat_lit 1), q475), ((nat_lit 3), (nat_lit 1), q476), ((nat_lit 4), (nat_lit 1), q477), ((nat_lit 5), (nat_lit 1), q478), ((nat_lit 6), (nat_lit 1), q479), ((nat_lit 7), (nat_lit 1), q480)])) p1 
(oDo (xTurn (tnStore (nat_lit 8) g0 g1)) 
oEnd)) kRet))⟩
noncomputable def k286 : KFun := ⟨[rTmp (nat_lit 2) g2], (kSeq (oSet (xMove q0) p2 
oEnd) (kSeq (oSet (xMove g0) p3 
(oSet (xLook (lkEq false .ptr g3 q5)) p4 
(oSet (xMove g4) p5 
(oSetIf (wantF g5) (xMove g0) p6 
(oSetIf (wantF g5) (xNil g6) p7 
(oSetIf (wantF g5) (xLook (lkFieldAddr (nat_lit 0) g7)) p8 
(oSetIf (wantF g5) (xLook (lkLoad1 g8)) p9 
(oSetIf (wantF g5) (xLook (lkUn .not g9)) p10 
(oSet (xLook (lkPick g5 q2 g10)) p11 
(oSet (xMove g11) p2 
oEnd)))))))))) kRet))⟩
def q481 : List Value := [(.int .u32 (.ofNat (nat_lit 0))), (.int .u32 (.ofNat (nat_lit 0))), (.int .u32 (.ofNat (nat_lit 0))), (.int .u32 (.ofNat (nat_lit 0))), (.int .u32 (.ofNat (nat_lit 0))), (.int .u32 (.ofNat (nat_lit 0))), (.int .u32 (.ofNat (nat_lit 0))), (.int .u32 (.ofNat (nat_lit 0))), (.int .u32 (.ofNat (nat_lit 0))), (.int .u32 (.ofNat (nat_lit 0))), (.int .u32 (.ofNat (nat_lit 0))), (.int .u32 (.ofNat (nat_lit 0))), (.int .u32 (.ofNat (nat_lit 0))), (.int .u32 (.ofNat (nat_lit 0))), (.int .u32 (.ofNat (nat_lit 0))), (.int .u32 (.ofNat (nat_lit 0))), (.int .u32 (.ofNat (nat_lit 0))), (.int .u32 (.ofNat (nat_lit 0))), (.int .u32 (.ofNat (nat_lit 0))), (.int .u32 (.ofNat (nat_lit 0))), (.int .u32 (.ofNat (nat_lit 0))), (.int .u32 (.ofNat (nat_lit 0))), (.int .u32 (.ofNat (nat_lit 0))), (.int .u32 (.ofNat (nat_lit 0))), (.int .u32 (.ofNat (nat_lit 0))), (.int .u32 (.ofNat (nat_lit 0))), (.int .u32 (.ofNat (nat_lit 0))), (.int .u32 (.ofNat (nat_lit 0))), (.int .u32 (.ofNat (nat_lit 0))), (.int .u32 (.ofNat (nat_lit 0))), (.int .u32 (.ofNat (nat_lit 0))), (.int .u32 (.ofNat (nat_lit 0))), (.int .u32 (.ofNat (nat_lit 0))), (.int .u32 (.ofNat (nat_lit 0))), (.int .u32 (.ofNat (nat_lit 0))), (.int .u32 (.ofNat (nat_lit 0))), (.int .u32 (.ofNat (nat_lit 0))), (.int .u32 (.ofNat (nat_lit 0))), (.int .u32 (.ofNat (nat_lit 0))), (.int .u32 (.ofNat (nat_lit 0))), (.int .u32 (.ofNat (nat_lit 0))), (.int .u32 (.ofNat (nat_lit 0))), (.int .u32 (.ofNat (nat_lit 0))), (.int .u32 (.ofNat (nat_lit 0))), (.int .u32 (.ofNat (nat_lit 0))), (.int .u32 (.ofNat (nat_lit 0))), (.int .u32 (.ofNat (nat_lit 0))), (.int .u32 (.ofNat (nat_lit 0))), (.int .u32 (.ofNat (nat_lit 0))), (.int .u32 (.ofNat (nat_lit 0))), (.int .u32 (.ofNat (nat_lit 0))), (.int .u32 (.ofNat (nat_lit 0))), (.int .u32 (.ofNat (nat_lit 0))), (.int .u32 (.ofNat (nat_lit 0))), (.int .u32 (.ofNat (nat_lit 0))), (.int .u32 (.ofNat (nat_lit 0))), (.int .u32 (.ofNat (nat_lit 0))), (.int .u32 (.ofNat (nat_lit 0))), (.int .u32 (.ofNat (nat_lit 0))), (.int .u32 (.ofNat (nat_lit 0))), (.int .u32 (.ofNat (nat_lit 0))), (.int .u32 (.ofNat (nat_lit 0))), (.int .u32 (.ofNat (nat_lit 0))), (.int .u32 (.ofNat (nat_lit 0)))]
def q482 : OpdF := kC (.int .u64 (.ofNat (nat_lit 24)))
def q483 : OpdF := kC (.int .u64 (.ofNat (nat_lit 10)))
def q484 : OpdF := kC (.func (.func (nat_lit 371)) ⟨[]⟩ ⟨[]⟩)
def q485 : OpdF := kC (.int .i64 (.ofNat (nat_lit 19)))
def q486 : OpdF := kC (.int .i64 (.ofNat (nat_lit 17)))
def q487 : OpdF := kC (.int .u64 (.ofNat (nat_lit 3)))
def q488 : OpdF := kC (.int .i64 (.ofNat (nat_lit 18)))
def q489 : OpdF := kC (.func (.func (nat_lit 372)) ⟨[]⟩ ⟨[]⟩)
def q490 : OpdF := kC (.int .i64 (.ofNat (nat_lit 25)))
def q491 : OpdF := kC (.int .i64 (.ofNat (nat_lit 22)))
noncomputable def k287 : KFun := ⟨[rCellN (nat_lit 4) g4 (nat_lit 8)], (kSeq (oSet (xTurn (tnBox g0)) p2 
(oSet (xTurn (tnAlloc q472)) p4 
oEnd)) (kSeq (oSet (xTurn (tnAlloc q481)) p5 
oEnd) (kSeq (kSeq (oSet (xMove q6) p23 
oEnd) (kBlock (nat_lit 0) (kLoop (kSeq (oSet (xLook (lkBin .lss g23 q37)) p24 
oEnd) (kSeq (kCond g24 kSkip (kExit (nat_lit 0))) (kSeq (kBlock (nat_lit 1) (kSeq (oSet (xMove g23) p25 
(oSet (xMove g25) p6 
oEnd)) (kDraw 
(dLook (nat_lit 0) [] [] (lkMove g6) p26 
(dLook (nat_lit 1) [] [] (lkMove g1) p27 
(dLook (nat_lit 2) [] [] (lkMove g6) p28 
(dLook (nat_lit 3) [] [] (lkBin .mul q149 g28) p29 
(dLook (nat_lit 4) [] [] (lkIxSl (nat_lit 1) g27 g29) p30 
(dLook (nat_lit 5) [] [] (lkLoad1 g30) p31 
(dLook (nat_lit 6) [] [] (lkIntTo .u32 g31) p32 
(dLook (nat_lit 7) [] [] (lkBin .shl g32 q482) p33 
(dLook (nat_lit 8) [] [] (lkMove g1) p34 
(dLook (nat_lit 9) [] [] (lkMove g6) p35 
(dLook (nat_lit 10) [] [] (lkBin .mul q149 g35) p36 
(dLook (nat_lit 11) [] [] (lkBin .add g36 q16) p37 
(dLook (nat_lit 12) [] [] (lkIxSl (nat_lit 1) g34 g37) p38 
(dLook (nat_lit 13) [] [] (lkLoad1 g38) p39 
(dLook (nat_lit 14) [] [] (lkIntTo .u32 g39) p40 
(dLook (nat_lit 15) [] [] (lkBin .shl g40 q458) p41 
(dLook (nat_lit 16) [] [] (lkBin .or g33 g41) p42 
(dLook (nat_lit 17) [] [] (lkMove g1) p43 
(dLook (nat_lit 18) [] [] (lkMove g6) p44 
(dLook (nat_lit 19) [] [] (lkBin .mul q149 g44) p45 
(dLook (nat_lit 20) [] [] (lkBin .add g45 q35) p46 
(dLook (nat_lit 21) [] [] (lkIxSl (nat_lit 1) g43 g46) p47 
(dLook (nat_lit 22) [] [] (lkLoad1 g47) p48 
(dLook (nat_lit 23) [] [] (lkIntTo .u32 g48) p49 
(dLook (nat_lit 24) [] [] (lkBin .shl g49 q358) p50 
(dLook (nat_lit 25) [] [] (lkBin .or g42 g50) p51 
(dLook (nat_lit 26) [] [] (lkMove g1) p52 
(dLook (nat_lit 27) [] [] (lkMove g6) p53 
(dLook (nat_lit 28) [] [] (lkBin .mul q149 g53) p54 
(dLook (nat_lit 29) [] [] (lkBin .add g54 q83) p55 
(dLook (nat_lit 30) [] [] (lkIxSl (nat_lit 1) g52 g55) p56 
(dLook (nat_lit 31) [] [] (lkLoad1 g56) p57 
(dLook (nat_lit 32) [] [] (lkIntTo .u32 g57) p58 
(dLook (nat_lit 33) [] [] (lkBin .or g51 g58) p59 
(dLook (nat_lit 34) [] [] (lkIxArr (nat_lit 64) (nat_lit 1) g5 g26) p60 
(dTurn (nat_lit 35) [] [] true (xTurn (tnStore (nat_lit 1) g60 g59)) noDst (dEnd [(nat_lit 26), (nat_lit 27), (nat_lit 28), (nat_lit 29), (nat_lit 30), (nat_lit 31), (nat_lit 32), (nat_lit 33), (nat_lit 34), (nat_lit 35), (nat_lit 36), (nat_lit 37), (nat_lit 38), (nat_lit 39), (nat_lit 40), (nat_lit 41), (nat_lit 42), (nat_lit 43), (nat_lit 44), (nat_lit 45), (nat_lit 46), (nat_lit 47), (nat_lit 48), (nat_lit 49), (nat_lit 50), (nat_lit 51), (nat_lit 52), (nat_lit 53), (nat_lit 54), (nat_lit 55), (nat_lit 56), (nat_lit 57), (nat_lit 58), (nat_lit 59), (nat_lit 60)])))))))))))))))))))))))))))))))))))))))) (oSet (xLook (lkBin .add g23 q16)) p61 
(oSet (xMove g61) p23 
oEnd)))))))) (kSeq (kSeq (oSet (xMove q37) p7 
oEnd) (kBlock (nat_lit 2) (kLoop (kSeq (kSeq (oSet (xMove g7) p62 
(oSet (xLook (lkBin .lss g62 q254)) p63 
oEnd)) (kCond g63 kSkip (kExit (nat_lit 2)))) (kSeq (kBlock (nat_lit 3) (kSeq (kDraw 
(dLook (nat_lit 0) [] [] (lkMove g7) p66 
(dLook (nat_lit 1) [] [] (lkBin .sub g66 q281) p67 
(dLook (nat_lit 2) [] [] (lkIxArr (nat_lit 64) (nat_lit 1) g5 g67) p68 
(dLook (nat_lit 3) [] [] (lkLoad1 g68) p69 
(dLook (nat_lit 4) [] [] (lkMove g7) p70 
(dLook (nat_lit 5) [] [] (lkBin .sub g70 q35) p71 
(dLook (nat_lit 6) [] [] (lkIxArr (nat_lit 64) (nat_lit 1) g5 g71) p72 
(dLook (nat_lit 7) [] [] (lkLoad1 g72) p73 
(dLook (nat_lit 8) [] [] (lkMove g69) p8 
(dLook (nat_lit 9) [] [] (lkMove g73) p9 (dEnd [(nat_lit 66), (nat_lit 67), (nat_lit 68), (nat_lit 69), (nat_lit 70), (nat_lit 71), (nat_lit 72), (nat_lit 73), (nat_lit 8), (nat_lit 9)])))))))))))) (kDraw 
(dLook (nat_lit 0) [] [] (lkMove g7) p74 
(dLook (nat_lit 1) [] [] (lkMove g7) p75 
(dLook (nat_lit 2) [] [] (lkBin .sub g75 q37) p76 
(dLook (nat_lit 3) [] [] (lkIxArr (nat_lit 64) (nat_lit 1) g5 g76) p77 
(dLook (nat_lit 4) [] [] (lkLoad1 g77) p78 
(dLook (nat_lit 5) [] [] (lkMove g8) p79 
(dTurn (nat_lit 6) [(nat_lit 4)] [] true (xCall q484 [g79, q36]) p80 
(dLook (nat_lit 7) [] [] (lkMove g8) p81 
(dTurn (nat_lit 8) [(nat_lit 4)] [(nat_lit 6)] true (xCall q484 [g81, q488]) p82 
(dLook (nat_lit 9) [] [(nat_lit 6), (nat_lit 8)] (lkBin .xor g80 g82) p83 
(dLook (nat_lit 10) [] [] (lkMove g8) p84 
(dLook (nat_lit 11) [] [] (lkBin .shr g84 q487) p85 
(dLook (nat_lit 12) [] [(nat_lit 6), (nat_lit 8)] (lkBin .xor g83 g85) p86 
(dLook (nat_lit 13) [] [(nat_lit 6), (nat_lit 8)] (lkBin .add g78 g86) p87 
(dLook (nat_lit 14) [] [] (lkMove g7) p88 
(dLook (nat_lit 15) [] [] (lkBin .sub g88 q36) p89 
(dLook (nat_lit 16) [] [] (lkIxArr (nat_lit 64) (nat_lit 1) g5 g89) p90 
(dLook (nat_lit 17) [(nat_lit 6), (nat_lit 8)] [] (lkLoad1 g90) p91 
(dLook (nat_lit 18) [] [(nat_lit 6), (nat_lit 8)] (lkBin .add g87 g91) p92 
(dLook (nat_lit 19) [] [] (lkMove g9) p93 
(dTurn (nat_lit 20) [(nat_lit 4), (nat_lit 17)] [(nat_lit 6), (nat_lit 8)] true (xCall q484 [g93, q486]) p94 
(dLook (nat_lit 21) [] [] (lkMove g9) p95 
(dTurn (nat_lit 22) [(nat_lit 4), (nat_lit 17)] [(nat_lit 6), (nat_lit 8), (nat_lit 20)] true (xCall q484 [g95, q485]) p96 
(dLook (nat_lit 23) [] [(nat_lit 6), (nat_lit 8), (nat_lit 20), (nat_lit 22)] (lkBin .xor g94 g96) p97 
(dLook (nat_lit 24) [] [] (lkMove g9) p98 
(dLook (nat_lit 25) [] [] (lkBin .shr g98 q483) p99 
(dLook (nat_lit 26) [] [(nat_lit 6), (nat_lit 8), (nat_lit 20), (nat_lit 22)] (lkBin .xor g97 g99) p100 
(dLook (nat_lit 27) [] [(nat_lit 6), (nat_lit 8), (nat_lit 20), (nat_lit 22)] (lkBin .add g92 g100) p101 
(dLook (nat_lit 28) [] [(nat_lit 6), (nat_lit 8), (nat_lit 20), (nat_lit 22)] (lkIxArr (nat_lit 64) (nat_lit 1) g5 g74) p102 
(dTurn (nat_lit 29) [] [(nat_lit 6), (nat_lit 8), (nat_lit 20), (nat_lit 22)] true (xTurn (tnStore (nat_lit 1) g102 g101)) noDst (dEnd [(nat_lit 74), (nat_lit 75), (nat_lit 76), (nat_lit 77), (nat_lit 78), (nat_lit 79), (nat_lit 80), (nat_lit 81), (nat_lit 82), (nat_lit 83), (nat_lit 84), (nat_lit 85), (nat_lit 86), (nat_lit 87), (nat_lit 88), (nat_lit 89), (nat_lit 90), (nat_lit 91), (nat_lit 92), (nat_lit 93), (nat_lit 94), (nat_lit 95), (nat_lit 96), (nat_lit 97), (nat_lit 98), (nat_lit 99), (nat_lit 100), (nat_lit 101), (nat_lit 102)])))))))))))))))))))))))))))))))))) (oSet (xMove g7) p64 
(oSet (xLook (lkBin .add g64 q16)) p65 
(oSet (xMove g65) p7 
oEnd)))))))) (kSeq (oSet (xLook (lkLoadN (nat_lit 8) g2)) p103 
(oSet (xTurn (tnAlloc q472)) p10 
(oDo (xTurn (tnStore (nat_lit 8) g10 g103)) 
oEnd))) (kSeq (kSeq (oSet (xCall q489 []) p104 
(oSet (xMove q6) p105 
oEnd)) (kBlock (nat_lit 4) (kLoop (kSeq (oSet (xLook (lkBin .lss g105 q254)) p106 
oEnd) (kSeq (kCond g106 kSkip (kExit (nat_lit 4))) (kSeq (kBlock (nat_lit 5) (kSeq (oSet (xMove g105) p107 
(oSet (xLook (lkIxVal1 (nat_lit 64) g104 g105)) p108 
(oSet (xMove g107) p11 
(oSet (xMove g108) p12 
oEnd)))) (kSeq (kDraw 
(dLook (nat_lit 0) [] [] (lkIxArr (nat_lit 8) (nat_lit 1) g10 q6) p109 
(dLook (nat_lit 1) [] [] (lkLoad1 g109) p110 
(dLook (nat_lit 2) [] [] (lkIxArr (nat_lit 8) (nat_lit 1) g10 q16) p111 
(dLook (nat_lit 3) [] [] (lkLoad1 g111) p112 
(dLook (nat_lit 4) [] [] (lkIxArr (nat_lit 8) (nat_lit 1) g10 q35) p113 
(dLook (nat_lit 5) [] [] (lkLoad1 g113) p114 
(dLook (nat_lit 6) [] [] (lkIxArr (nat_lit 8) (nat_lit 1) g10 q149) p115 
(dLook (nat_lit 7) [] [] (lkLoad1 g115) p116 
(dLook (nat_lit 8) [] [] (lkIxArr (nat_lit 8) (nat_lit 1) g10 q77) p117 
(dLook (nat_lit 9) [] [] (lkLoad1 g117) p118 
(dLook (nat_lit 10) [] [] (lkIxArr (nat_lit 8) (nat_lit 1) g10 q63) p119 
(dLook (nat_lit 11) [] [] (lkLoad1 g119) p120 
(dLook (nat_lit 12) [] [] (lkIxArr (nat_lit 8) (nat_lit 1) g10 q36) p121 
(dLook (nat_lit 13) [] [] (lkLoad1 g121) p122 
(dLook (nat_lit 14) [] [] (lkMove g110) p13 
(dLook (nat_lit 15) [] [] (lkMove g112) p14 
(dLook (nat_lit 16) [] [] (lkMove g114) p15 
(dLook (nat_lit 17) [] [] (lkMove g116) p16 
(dLook (nat_lit 18) [] [] (lkMove g118) p17 
(dLook (nat_lit 19) [] [] (lkMove g120) p18 
(dLook (nat_lit 20) [] [] (lkMove g122) p19 (dEnd [(nat_lit 109), (nat_lit 110), (nat_lit 111), (nat_lit 112), (nat_lit 113), (nat_lit 114), (nat_lit 115), (nat_lit 116), (nat_lit 117), (nat_lit 118), (nat_lit 119), (nat_lit 120), (nat_lit 121), (nat_lit 122), (nat_lit 13), (nat_lit 14), (nat_lit 15), (nat_lit 16), (nat_lit 17), (nat_lit 18), (nat_lit 19)]))))))))))))))))))))))) (kSeq (kDraw 
(dLook (nat_lit 0) [] [] (lkMove g19) p123 
(dLook (nat_lit 1) [] [] (lkMove g16) p124 
(dTurn (nat_lit 2) [] [] true (xCall q484 [g124, q63]) p125 
(dLook (nat_lit 3) [] [] (lkMove g16) p126 
(dTurn (nat_lit 4) [] [(nat_lit 2)] true (xCall q484 [g126, q67]) p127 
(dLook (nat_lit 5) [] [(nat_lit 2), (nat_lit 4)] (lkBin .xor g125 g127) p128 
(dLook (nat_lit 6) [] [] (lkMove g16) p129 
(dTurn (nat_lit 7) [] [(nat_lit 2), (nat_lit 4)] true (xCall q484 [g129, q490]) p130 
(dLook (nat_lit 8) [] [(nat_lit 2), (nat_lit 4), (nat_lit 7)] (lkBin .xor g128 g130) p131 
(dLook (nat_lit 9) [] [(nat_lit 2), (nat_lit 4), (nat_lit 7)] (lkBin .add g123 g131) p132 
(dLook (nat_lit 10) [] [] (lkMove g16) p133 
(dLook (nat_lit 11) [] [] (lkMove g17) p134 
(dLook (nat_lit 12) [] [] (lkBin .and g133 g134) p135 
(dLook (nat_lit 13) [] [] (lkMove g16) p136 
(dLook (nat_lit 14) [] [] (lkUn .xor g136) p137 
(dLook (nat_lit 15) [] [] (lkMove g18) p138 
(dLook (nat_lit 16) [] [] (lkBin .and g137 g138) p139 
(dLook (nat_lit 17) [] [] (lkBin .xor g135 g139) p140 
(dLook (nat_lit 18) [] [(nat_lit 2), (nat_lit 4), (nat_lit 7)] (lkBin .add g132 g140) p141 
(dLook (nat_lit 19) [] [] (lkMove g12) p142 
(dLook (nat_lit 20) [] [(nat_lit 2), (nat_lit 4), (nat_lit 7)] (lkBin .add g141 g142) p143 
(dLook (nat_lit 21) [] [] (lkMove g11) p144 
(dLook (nat_lit 22) [] [] (lkIxArr (nat_lit 64) (nat_lit 1) g5 g144) p145 
(dLook (nat_lit 23) [(nat_lit 2), (nat_lit 4), (nat_lit 7)] [] (lkLoad1 g145) p146 
(dLook (nat_lit 24) [] [(nat_lit 2), (nat_lit 4), (nat_lit 7)] (lkBin .add g143 g146) p147 
(dLook (nat_lit 25) [] [(nat_lit 2), (nat_lit 4), (nat_lit 7)] (lkMove g147) p20 (dEnd [(nat_lit 123), (nat_lit 124), (nat_lit 125), (nat_lit 126), (nat_lit 127), (nat_lit 128), (nat_lit 129), (nat_lit 130), (nat_lit 131), (nat_lit 132), (nat_lit 133), (nat_lit 134), (nat_lit 135), (nat_lit 136), (nat_lit 137), (nat_lit 138), (nat_lit 139), (nat_lit 140), (nat_lit 141), (nat_lit 142), (nat_lit 143), (nat_lit 144), (nat_lit 145), (nat_lit 146), (nat_lit 147), (nat_lit 20)])))))))))))))))))))))))))))) (kSeq (oSet (xMove g13) p148 
(oSet (xCall q484 [g148, q35]) p149 
(oSet (xMove g13) p150 
(oSet (xCall q484 [g150, q404]) p151 
(oSet (xLook (lkBin .xor g149 g151)) p152 
(oSet (xMove g13) p153 
(oSet (xCall q484 [g153, q491]) p154 
(oSet (xLook (lkBin .xor g152 g154)) p155 
(oSet (xMove g13) p156 
(oSet (xMove g14) p157 
(oSet (xLook (lkBin .and g156 g157)) p158 
(oSet (xMove g13) p159 
(oSet (xMove g15) p160 
(oSet (xLook (lkBin .and g159 g160)) p161 
(oSet (xLook (lkBin .xor g158 g161)) p162 
(oSet (xMove g14) p163 
(oSet (xMove g15) p164 
(oSet (xLook (lkBin .and g163 g164)) p165 
(oSet (xLook (lkBin .xor g162 g165)) p166 
(oSet (xLook (lkBin .add g155 g166)) p167 
(oSet (xMove g167) p21 
oEnd))))))))))))))))))))) (oSet (xMove g20) p168 
(oSet (xMove g21) p169 
(oSet (xLook (lkBin .add g168 g169)) p170 
(oSet (xMove g13) p171 
(oSet (xMove g14) p172 
(oSet (xMove g15) p173 
(oSet (xLook (lkIxArr (nat_lit 8) (nat_lit 1) g10 q83)) p174 
(oSet (xLook (lkLoad1 g174)) p175 
(oSet (xMove g20) p176 
(oSet (xLook (lkBin .add g175 g176)) p177 
(oSet (xMove g16) p178 
(oSet (xMove g17) p179 
(oSet (xMove g18) p180 
(oSet (xLook (lkBuild q472 [((nat_lit 0), (nat_lit 1), g170), ((nat_lit 1), (nat_lit 1), g171), ((nat_lit 2), (nat_lit 1), g172), ((nat_lit 3), (nat_lit 1), g173), ((nat_lit 4), (nat_lit 1), g177), ((nat_lit 5), (nat_lit 1), g178), ((nat_lit 6), (nat_lit 1), g179), ((nat_lit 7), (nat_lit 1), g180)])) p181 
(oDo (xTurn (tnStore (nat_lit 8) g10 g181)) 
oEnd)))))))))))))))))))) (oSet (xLook (lkBin .add g105 q16)) p182 
(oSet (xMove g182) p105 
oEnd)))))))) (kSeq (kSeq (oSet (xMove q6) p183 
oEnd) (kBlock (nat_lit 6) (kLoop (kSeq (oSet (xLook (lkBin .lss g183 q38)) p184 
oEnd) (kSeq (kCond g184 kSkip (kExit (nat_lit 6))) (kSeq (kBlock (nat_lit 7) (kSeq (oSet (xMove g183) p185 
(oSet (xMove g185) p22 
oEnd)) (kDraw 
(dLook (nat_lit 0) [] [] (lkMove g22) p186 
(dLook (nat_lit 1) [] [] (lkIxArr (nat_lit 8) (nat_lit 1) g2 g186) p187 
(dLook (nat_lit 2) [] [] (lkLoad1 g187) p188 
(dLook (nat_lit 3) [] [] (lkMove g22) p189 
(dLook (nat_lit 4) [] [] (lkIxArr (nat_lit 8) (nat_lit 1) g10 g189) p190 
(dLook (nat_lit 5) [] [] (lkLoad1 g190) p191 
(dLook (nat_lit 6) [] [] (lkBin .add g188 g191) p192 
(dLook (nat_lit 7) [] [] (lkIxArr (nat_lit 8) (nat_lit 1) g2 g186) p193 
(dTurn (nat_lit 8) [] [] true (xTurn (tnStore (nat_lit 1) g193 g192)) noDst (dEnd [(nat_lit 186), (nat_lit 187), (nat_lit 188), (nat_lit 189), (nat_lit 190), (nat_lit 191), (nat_lit 192), (nat_lit 193)]))))))))))))) (oSet (xLook (lkBin .add g183 q16)) p194 
(oSet (xMove g194) p183 
oEnd)))))))) (kSeq (oSet (xLook (lkLoadN (nat_lit 8) g2)) p195 
(oDo (xTurn (tnStore (nat_lit 8) g4 g195)) 
oEnd)) kRet))))))))⟩
def q492 : OpdF := kC (.func (.func (nat_lit 373)) ⟨[]⟩ ⟨[]⟩)
noncomputable def k288 : KFun := ⟨[rTmp (nat_lit 2) g2], (kSeq (oSet (xMove q6) p2 
oEnd) (kSeq (oSet (xMove q269) p3 
oEnd) (kSeq (kSeq (oSet (xMove g0) p6 
(oSet (xLook (lkLen .sl g6)) p7 
(oSet (xMove q6) p8 
oEnd))) (kBlock (nat_lit 0) (kLoop (kSeq (oSet (xLook (lkBin .lss g8 g7)) p9 
oEnd) (kSeq (kCond g9 kSkip (kExit (nat_lit 0))) (kSeq (kBlock (nat_lit 1) (kSeq (oSet (xLook (lkIxSl (nat_lit 2) g6 g8)) p10 
(oSet (xLook (lkLoadN (nat_lit 2) g10)) p11 
(oSet (xTurn (tnAlloc q66)) p5 
(oDo (xTurn (tnStore (nat_lit 2) g5 g11)) 
oEnd)))) (kSeq (kSeq (oSet (xLook (lkFieldAddr (nat_lit 1) g5)) p12 
(oSet (xLook (lkLoad1 g12)) p13 
(oSet (xLook (lkBin .lss g13 q16)) p14 
(oSet (xMove g14) p15 
(oSetIf (wantF g15) (xLook (lkFieldAddr (nat_lit 0) g5)) p16 
(oSetIf (wantF g15) (xLook (lkLoad1 g16)) p17 
(oSetIf (wantF g15) (xMove g3) p18 
(oSetIf (wantF g15) (xLook (lkBin .leq g17 g18)) p19 
(oSet (xLook (lkPick g15 q2 g19)) p20 
(oSet (xMove g20) p21 
(oSetIf (wantF g21) (xLook (lkFieldAddr (nat_lit 0) g5)) p22 
(oSetIf (wantF g21) (xLook (lkLoad1 g22)) p23 
(oSetIf (wantF g21) (xLook (lkBin .lss g23 q6)) p24 
(oSet (xLook (lkPick g21 q2 g24)) p25 
(oSet (xMove g25) p26 
(oSetIf (wantF g26) (xLook (lkFieldAddr (nat_lit 0) g5)) p27 
(oSetIf (wantF g26) (xLook (lkLoad1 g27)) p28 
(oSetIf (wantF g26) (xLook (lkBin .gtr g28 q128)) p29 
(oSet (xLook (lkPick g26 q2 g29)) p30 
(oSet (xMove g30) p31 
(oSetIf (wantF g31) (xLook (lkFieldAddr (nat_lit 1) g5)) p32 
(oSetIf (wantF g31) (xLook (lkLoad1 g32)) p33 
(oSetIf (wantF g31) (xLook (lkFieldAddr (nat_lit 0) g5)) p34 
(oSetIf (wantF g31) (xLook (lkLoad1 g34)) p35 
(oSetIf (wantF g31) (xLook (lkBin .sub q128 g35)) p36 
(oSetIf (wantF g31) (xLook (lkBin .gtr g33 g36)) p37 
(oSet (xLook (lkPick g31 q2 g37)) p38 
oEnd))))))))))))))))))))))))))) (kCond g38 (kSeq (oSet (xMove q35) p2 
oEnd) kRet) kSkip)) (oSet (xLook (lkLoadN (nat_lit 2) g5)) p39 
(oSet (xCall q492 [g39]) p40 
(oSet (xMove g40) p3 
oEnd)))))) (oSet (xLook (lkBin .add g8 q16)) p41 
(oSet (xMove g41) p8 
oEnd)))))))) (kSeq (oSet (xMove q6) p2 
oEnd) kRet))))⟩
noncomputable def k289 : KFun := ⟨[rTmp (nat_lit 4) g4], (kSeq (oSet (xMove q6) p4 
oEnd) (kSeq (kSeq (oSet (xMove g0) p6 
(oSet (xLook (lkLen .sl g6)) p7 
(oSet (xMove q6) p8 
oEnd))) (kBlock (nat_lit 0) (kLoop (kSeq (oSet (xLook (lkBin .lss g8 g7)) p9 
oEnd) (kSeq (kCond g9 kSkip (kExit (nat_lit 0))) (kSeq (kBlock (nat_lit 1) (kSeq (oSet (xMove g8) p10 
(oSet (xMove g10) p5 
oEnd)) (kSeq (oSet (xMove g1) p11 
(oSet (xMove g0) p12 
(oSet (xMove g5) p13 
(oSet (xLook (lkIxSl (nat_lit 2) g12 g13)) p14 
(oSet (xLook (lkLoadN (nat_lit 2) g14)) p15 
(oSet (xCall g11 [g15]) p16 
oEnd)))))) (kCond g16 (kSeq (oSet (xMove g5) p17 
(oSet (xMove g17) p4 
oEnd)) kRet) kSkip)))) (oSet (xLook (lkBin .add g8 q16)) p18 
(oSet (xMove g18) p8 
oEnd)))))))) (kSeq (oSet (xMove q269) p4 
oEnd) kRet)))⟩
noncomputable def k290 : KFun := ⟨[rTmp (nat_lit 3) g3], (kSeq (oSet (xTurn (tnBox g0)) p2 
(oSet (xMove q0) p3 
oEnd)) (kSeq (oSet (xLook (lkFieldAddr (nat_lit 1) g2)) p4 
(oSet (xLook (lkLoad1 g4)) p5 
(oSet (xLook (lkLoad1 g1)) p6 
(oSet (xLook (lkBin .geq g5 g6)) p7 
(oSet (xMove g7) p3 
oEnd))))) kRet))⟩
def q493 : OpdF := kC (.func (.func (nat_lit 375)) ⟨[]⟩ ⟨[]⟩)
def q494 : OpdF := kC (.func (.func (nat_lit 374)) ⟨[]⟩ ⟨[]⟩)
def q495 : OpdF := kC (.func (.func (nat_lit 376)) ⟨[]⟩ ⟨[]⟩)
noncomputable def k291 : KFun := ⟨[rTmp (nat_lit 8) g8], (kSeq (oSet (xMove q18) p8 
oEnd) (kSeq (oSet (xMove g0) p12 
(oSet (xMove g1) p13 
(oSet (xLook (lkIxSl (nat_lit 2) g12 g13)) p14 
(oSet (xLook (lkLoadN (nat_lit 2) g14)) p15 
(oSet (xTurn (tnAlloc q66)) p9 
(oDo (xTurn (tnStore (nat_lit 2) g9 g15)) 
oEnd)))))) (kSeq (oSet (xMove q18) p10 
oEnd) (kSeq (kSeq (oSet (xMove g2) p16 
(oSet (xLook (lkFieldAddr (nat_lit 0) g9)) p17 
(oSet (xLook (lkLoad1 g17)) p18 
(oSet (xLook (lkBin .gtr g16 g18)) p19 
oEnd)))) (kCond g19 (oSet (xMove g10) p20 
(oSet (xLook (lkFieldAddr (nat_lit 0) g9)) p21 
(oSet (xLook (lkLoad1 g21)) p22 
(oSet (xMove g2) p23 
(oSet (xLook (lkFieldAddr (nat_lit 0) g9)) p24 
(oSet (xLook (lkLoad1 g24)) p25 
(oSet (xLook (lkBin .sub g23 g25)) p26 
(oSet (xLook (lkBuild q66 [((nat_lit 0), (nat_lit 1), g22), ((nat_lit 1), (nat_lit 1), g26)])) p27 
(oSet (xTurn (tnBuildSlice q66 [((nat_lit 0), (nat_lit 2), g27)] (nat_lit 1))) p28 
(oSet (xTurn (tnAppend (nat_lit 2) g20 g28)) p29 
(oSet (xMove g29) p10 
oEnd))))))))))) kSkip)) (kSeq (kSeq (oSet (xMove g2) p30 
(oSet (xMove g3) p31 
(oSet (xLook (lkBin .add g30 g31)) p32 
(oSet (xLook (lkLoadN (nat_lit 2) g9)) p33 
(oSet (xCall q492 [g33]) p34 
(oSet (xLook (lkBin .lss g32 g34)) p35 
oEnd)))))) (kCond g35 (oSet (xMove g10) p36 
(oSet (xMove g2) p37 
(oSet (xMove g3) p38 
(oSet (xLook (lkBin .add g37 g38)) p39 
(oSet (xLook (lkLoadN (nat_lit 2) g9)) p40 
(oSet (xCall q492 [g40]) p41 
(oSet (xMove g2) p42 
(oSet (xLook (lkBin .sub g41 g42)) p43 
(oSet (xMove g3) p44 
(oSet (xLook (lkBin .sub g43 g44)) p45 
(oSet (xLook (lkBuild q66 [((nat_lit 0), (nat_lit 1), g39), ((nat_lit 1), (nat_lit 1), g45)])) p46 
(oSet (xTurn (tnBuildSlice q66 [((nat_lit 0), (nat_lit 2), g46)] (nat_lit 1))) p47 
(oSet (xTurn (tnAppend (nat_lit 2) g36 g47)) p48 
(oSet (xMove g48) p10 
oEnd)))))))))))))) kSkip)) (kSeq (oSet (xMove g0) p49 
(oSet (xCall q493 [g49]) p50 
(oSet (xMove g1) p51 
(oSet (xMove g1) p52 
(oSet (xLook (lkBin .add g52 q16)) p53 
(oSet (xCall q494 [g50, g51, g53]) p54 
(oSet (xMove g54) p11 
oEnd))))))) (kSeq (oSet (xMove g11) p55 
(oSet (xMove g1) p56 
(oSet (xMove g10) p57 
(oSet (xCall q495 [g55, g56, g57]) p58 
(oSet (xMove g58) p8 
oEnd))))) kRet)))))))⟩
def q496 : OpdF := kC (.func (.func (nat_lit 293)) ⟨[]⟩ ⟨[]⟩)
noncomputable def k292 : KFun := ⟨[], (kSeq (oSet (xTurn (tnBox g0)) p2 
oEnd) (kSeq (oSet (xLook (lkLoadN (nat_lit 2) g2)) p4 
(oSet (xCall q264 [g4]) p5 
(oSet (xMove g5) p3 
oEnd))) (kSeq (oSet (xMove g3) p6 
(oSet (xLook (lkBin .gtr g6 q6)) p7 
(oSet (xMove g7) p8 
(oSetIf (wantT g8) (xLook (lkFieldAddr (nat_lit 0) g2)) p9 
(oSetIf (wantT g8) (xLook (lkLoad1 g9)) p10 
(oSetIf (wantT g8) (xLook (lkBin .gtr g10 q6)) p11 
(oSet (xLook (lkPick g8 g11 q0)) p12 
oEnd))))))) (kCond g12 (oSet (xLook (lkLoad1 g1)) p14 
(oSet (xLook (lkFieldAddr (nat_lit 0) g2)) p15 
(oSet (xLook (lkLoad1 g15)) p16 
(oSet (xMove g3) p17 
(oSet (xCall q496 [g14, g16, g17]) p18 
(oSet (xMove g18) p13 
(oSet (xLook (lkExtract (nat_lit 0) g13)) p19 
(oSet (xLook (lkExtract (nat_lit 1) g13)) p20 
(oDo (xTurn (tnStore (nat_lit 1) g1 g19)) 
oEnd))))))))) kSkip))))⟩
def q497 : OpdF := kC (.func (.func (nat_lit 377)) ⟨[]⟩ ⟨[]⟩)
def q498 : OpdF := kC (.func (.func (nat_lit 378)) ⟨[]⟩ ⟨[]⟩)
noncomputable def k293 : KFun := ⟨[rTmp (nat_lit 6) g6, rTmp (nat_lit 7) g7], (kSeq (oSet (xMove q18) p6 
(oSet (xMove q6) p7 
oEnd)) (kSeq (kSeq (oSet (xMove g0) p9 
(oSet (xMove g1) p10 
(oSet (xMove g2) p11 
(oSet (xCall q497 [g9, g10, g11]) p12 
oEnd)))) (kCond g12 (kSeq (oSet (xMove q18) p6 
(oSet (xMove q35) p7 
oEnd)) kRet) kSkip)) (kSeq (oSet (xMove g0) p13 
(oSet (xMove g1) p14 
(oSet (xCall q498 [g13, g14]) p15 
(oSet (xMove g15) p8 
oEnd)))) (kSeq (kSeq (oSet (xMove g8) p16 
(oSet (xMove g0) p17 
(oSet (xLook (lkLen .sl g17)) p18 
(oSet (xLook (lkEq false .int g16 g18)) p19 
(oSet (xMove g19) p20 
(oSetIf (wantF g20) (xMove g0) p21 
(oSetIf (wantF g20) (xMove g8) p22 
(oSetIf (wantF g20) (xLook (lkIxSl (nat_lit 2) g21 g22)) p23 
(oSetIf (wantF g20) (xLook (lkFieldAddr (nat_lit 0) g23)) p24 
(oSetIf (wantF g20) (xLook (lkLoad1 g24)) p25 
(oSetIf (wantF g20) (xMove g1) p26 
(oSetIf (wantF g20) (xLook (lkBin .gtr g25 g26)) p27 
(oSet (xLook (lkPick g20 q2 g27)) p28 
(oSet (xMove g28) p29 
(oSetIf (wantF g29) (xMove g0) p30 
(oSetIf (wantF g29) (xMove g8) p31 
(oSetIf (wantF g29) (xLook (lkIxSl (nat_lit 2) g30 g31)) p32 
(oSetIf (wantF g29) (xLook (lkLoadN (nat_lit 2) g32)) p33 
(oSetIf (wantF g29) (xCall q492 [g33]) p34 
(oSetIf (wantF g29) (xMove g1) p35 
(oSetIf (wantF g29) (xMove g2) p36 
(oSetIf (wantF g29) (xLook (lkBin .add g35 g36)) p37 
(oSetIf (wantF g29) (xLook (lkBin .lss g34 g37)) p38 
(oSet (xLook (lkPick g29 q2 g38)) p39 
oEnd)))))))))))))))))))))))) (kCond g39 (kSeq (oSet (xMove q18) p6 
(oSet (xMove q36) p7 
oEnd)) kRet) kSkip)) (kSeq (oSet (xMove g0) p40 
(oSet (xMove g8) p41 
(oSet (xMove g1) p42 
(oSet (xMove g2) p43 
(oSet (xCall q363 [g40, g41, g42, g43]) p44 
(oSet (xMove g44) p6 
(oSet (xMove q6) p7 
oEnd))))))) kRet)))))⟩
noncomputable def k301 : KFun := ⟨[rTmp (nat_lit 2) g2], (kSeq (oSet (xMove q0) p2 
oEnd) (kSeq (oSet (xMove g0) p3 
(oSet (xLook (lkEq false .ptr g3 q5)) p4 
(oSet (xMove g4) p5 
(oSetIf (wantF g5) (xMove g0) p6 
(oSetIf (wantF g5) (xNil g6) p7 
(oSetIf (wantF g5) (xLook (lkFieldAddr (nat_lit 3) g7)) p8 
(oSetIf (wantF g5) (xLook (lkLoad1 g8)) p9 
(oSetIf (wantF g5) (xLook (lkUn .not g9)) p10 
(oSet (xLook (lkPick g5 q2 g10)) p11 
(oSet (xMove g11) p2 
oEnd)))))))))) kRet))⟩
def q504 : OpdF := kC (.func (.func (nat_lit 385)) ⟨[]⟩ ⟨[]⟩)
def q508 : OpdF := kC (.int .u8 (.ofNat (nat_lit 82)))
def q509 : OpdF := kC (.int .u8 (.ofNat (nat_lit 67)))
def q510 : OpdF := kC (.int .i64 (.ofNat (nat_lit 14)))
def q511 : OpdF := kC (.func (.func (nat_lit 387)) ⟨[]⟩ ⟨[]⟩)
noncomputable def k305 : KFun := ⟨[rTmp (nat_lit 2) g2, rTmp (nat_lit 3) g3, rTmp (nat_lit 4) g4], (kSeq (oSet (xMove q18) p2 
(oSet (xMove q0) p3 
(oSet (xMove q6) p4 
oEnd))) (kSeq (kSeq (oSet (xMove g0) p15 
(oSet (xCall q271 [g15, q6]) p16 
(oSet (xMove g16) p14 
(oSet (xLook (lkExtract (nat_lit 0) g14)) p17 
(oSet (xLook (lkExtract (nat_lit 1) g14)) p18 
(oSet (xMove g17) p5 
(oSet (xMove g18) p6 
oEnd))))))) (kSeq (oSet (xMove g6) p19 
(oSet (xLook (lkEq false .int g19 q16)) p20 
oEnd)) (kCond g20 (kSeq (oSet (xMove g6) p21 
(oSet (xMove q18) p2 
(oSet (xMove q0) p3 
(oSet (xMove g21) p4 
oEnd)))) kRet) kSkip))) (kSeq (kSeq (oSet (xMove g0) p22 
(oSet (xCall q272 [g22]) p23 
(oSet (xLook (lkBin .lss g23 q35)) p24 
oEnd))) (kCond g24 (kSeq (oSet (xMove q18) p2 
(oSet (xMove q0) p3 
(oSet (xMove q38) p4 
oEnd))) kRet) kSkip)) (kSeq (oSet (xMove q0) p7 
oEnd) (kSeq (oSet (xMove q18) p8 
oEnd) (kSeq (kSeq (oSet (xMove q6) p25 
oEnd) (kBlock (nat_lit 0) (kLoop (kSeq (oSet (xLook (lkBin .lss g25 q35)) p26 
oEnd) (kSeq (kCond g26 kSkip (kExit (nat_lit 0))) (kSeq (kBlock (nat_lit 1) (kSeq (oSet (xMove g25) p27 
(oSet (xMove g27) p9 
oEnd)) (kSeq (oSet (xMove g0) p29 
(oSet (xMove g9) p30 
(oSet (xCall q271 [g29, g30]) p31 
(oSet (xMove g31) p28 
(oSet (xLook (lkExtract (nat_lit 0) g28)) p32 
(oSet (xLook (lkExtract (nat_lit 1) g28)) p33 
(oSet (xMove g32) p10 
(oSet (xMove g33) p11 
oEnd)))))))) (kSeq (kSeq (oSet (xMove g11) p34 
(oSet (xLook (lkEq true .int g34 q6)) p35 
oEnd)) (kCond g35 (kSeq (oSet (xMove g11) p36 
(oSet (xMove q18) p2 
(oSet (xMove q0) p3 
(oSet (xMove g36) p4 
oEnd)))) kRet) kSkip)) (kSeq (oSet (xMove g7) p37 
(oSet (xMove g37) p38 
(oSetIf (wantF g38) (xMove g10) p39 
(oSetIf (wantF g38) (xTurn (tnMkSlice q244 q254 q254)) p40 
(oSetIf (wantF g38) (xCall q381 [g39, g40]) p41 
(oSet (xLook (lkPick g38 q2 g41)) p42 
(oSet (xMove g42) p7 
oEnd))))))) (kSeq (oSet (xMove g10) p44 
(oSet (xCall q511 [g44]) p45 
(oSet (xMove g45) p43 
(oSet (xLook (lkExtract (nat_lit 0) g43)) p46 
(oSet (xLook (lkExtract (nat_lit 1) g43)) p47 
(oSet (xTurn (tnAlloc q138)) p12 
(oDo (xTurn (tnStore (nat_lit 35) g12 g46)) 
(oSet (xMove g47) p13 
oEnd)))))))) (kSeq (oSet (xMove g13) p48 
oEnd) (kCond g48 (oSet (xMove g8) p49 
(oSet (xTurn (tnBuildSlice q46 [((nat_lit 0), (nat_lit 1), g12)] (nat_lit 1))) p50 
(oSet (xTurn (tnAppend (nat_lit 1) g49 g50)) p51 
(oSet (xMove g51) p8 
oEnd)))) (oSet (xMove g8) p52 
(oSet (xTurn (tnBuildSlice q46 [((nat_lit 0), (nat_lit 1), q5)] (nat_lit 1))) p53 
(oSet (xTurn (tnAppend (nat_lit 1) g52 g53)) p54 
(oSet (xMove g54) p8 
oEnd)))))))))))) (oSet (xLook (lkBin .add g25 q16)) p55 
(oSet (xMove g55) p25 
oEnd)))))))) (kSeq (oSet (xMove g8) p56 
(oSet (xMove g7) p57 
(oSet (xMove g56) p2 
(oSet (xMove g57) p3 
(oSet (xMove q6) p4 
oEnd))))) kRet)))))))⟩
noncomputable def k306d0 : KD := 
(dLook (nat_lit 19) [] [] (lkPick g15 g31 q0) p32 (dEnd [(nat_lit 13), (nat_lit 14), (nat_lit 15), (nat_lit 16), (nat_lit 17), (nat_lit 18), (nat_lit 19), (nat_lit 20), (nat_lit 21), (nat_lit 22), (nat_lit 23), (nat_lit 24), (nat_lit 25), (nat_lit 26), (nat_lit 27), (nat_lit 28), (nat_lit 29), (nat_lit 30), (nat_lit 31), (nat_lit 32)]))
noncomputable def k306d1 : KD := 
(dIf [] (wantT g15) p31 (dLook (nat_lit 18) [] [] (lkPick g18 q2 g30) p31 k306d0) k306d0)
noncomputable def k306d2 : KD := 
(dIf [] (wantF g18) p30 (dLook (nat_lit 17) [] [] (lkBin .gtr g22 g29) p30 k306d1) k306d1)
noncomputable def k306d3 : KD := 
(dIf [] (wantF g18) p29 (dLook (nat_lit 16) [] [] (lkLoad1 g28) p29 k306d2) k306d2)
noncomputable def k306d4 : KD := 
(dIf [] (wantF g18) p28 (dLook (nat_lit 15) [] [] (lkFieldAddr (nat_lit 0) g27) p28 k306d3) k306d3)
noncomputable def k306d5 : KD := 
(dIf [] (wantF g18) p27 (dTurn (nat_lit 14) [] [] false (xNil g26) p27 k306d4) k306d4)
noncomputable def k306d6 : KD := 
(dIf [] (wantF g18) p26 (dLook (nat_lit 13) [] [] (lkLoad1 g25) p26 k306d5) k306d5)
noncomputable def k306d7 : KD := 
(dIf [] (wantF g18) p25 (dLook (nat_lit 12) [] [] (lkIxSl (nat_lit 1) g23 g24) p25 k306d6) k306d6)
noncomputable def k306d8 : KD := 
(dIf [] (wantF g18) p24 (dLook (nat_lit 11) [] [] (lkMove g3) p24 k306d7) k306d7)
noncomputable def k306d9 : KD := 
(dIf [] (wantF g18) p23 (dLook (nat_lit 10) [] [] (lkMove g0) p23 k306d8) k306d8)
noncomputable def k306d10 : KD := 
(dIf [] (wantF g18) p22 (dLook (nat_lit 9) [] [] (lkLoad1 g21) p22 k306d9) k306d9)
noncomputable def k306d11 : KD := 
(dIf [] (wantF g18) p21 (dLook (nat_lit 8) [] [] (lkFieldAddr (nat_lit 0) g20) p21 k306d10) k306d10)
noncomputable def k306d12 : KD := 
(dIf [] (wantF g18) p20 (dTurn (nat_lit 7) [] [] false (xNil g19) p20 k306d11) k306d11)
noncomputable def k306d13 : KD := 
(dIf [] (wantF g18) p19 (dLook (nat_lit 6) [] [] (lkMove g5) p19 k306d12) k306d12)
noncomputable def k306d14 : KD := 
(dIf [] (wantT g15) p18 (dLook (nat_lit 5) [] [] (lkMove g17) p18 k306d13) k306d13)
noncomputable def k306d15 : KD := 
(dIf [] (wantT g15) p17 (dLook (nat_lit 4) [] [] (lkBin .lss g16 q6) p17 k306d14) k306d14)
noncomputable def k306 : KFun := ⟨[rTmp (nat_lit 2) g2], (kSeq (oSet (xMove q6) p2 
oEnd) (kSeq (oSet (xMove q269) p3 
oEnd) (kSeq (kSeq (oSet (xMove g0) p6 
(oSet (xLook (lkLen .sl g6)) p7 
(oSet (xMove q6) p8 
oEnd))) (kBlock (nat_lit 0) (kLoop (kSeq (oSet (xLook (lkBin .lss g8 g7)) p9 
oEnd) (kSeq (kCond g9 kSkip (kExit (nat_lit 0))) (kSeq (kBlock (nat_lit 1) (kSeq (oSet (xMove g8) p10 
(oSet (xLook (lkIxSl (nat_lit 1) g6 g8)) p11 
(oSet (xLook (lkLoad1 g11)) p12 
(oSet (xMove g10) p4 
(oSet (xMove g12) p5 
oEnd))))) (kSeq (kDraw 
(dLook (nat_lit 0) [] [] (lkMove g5) p13 
(dLook (nat_lit 1) [] [] (lkEq true .ptr g13 q5) p14 
(dLook (nat_lit 2) [] [] (lkMove g14) p15 
(dIf [] (wantT g15) p16 (dLook (nat_lit 3) [] [] (lkMove g3) p16 k306d15) k306d15))))) (kCond g32 (oSet (xMove g4) p33 
(oSet (xMove g33) p3 
oEnd)) kSkip)))) (oSet (xLook (lkBin .add g8 q16)) p34 
(oSet (xMove g34) p8 
oEnd)))))))) (kSeq (oSet (xMove g3) p35 
(oSet (xMove g35) p2 
oEnd)) kRet))))⟩
noncomputable def k307 : KFun := ⟨[rTmp (nat_lit 4) g4], (kSeq (oSet (xMove q0) p4 
oEnd) (kSeq (oSet (xMove g0) p5 
(oSet (xLook (lkBytesTo g5)) p6 
(oSet (xMove g1) p7 
(oSet (xLook (lkBytesTo g7)) p8 
(oSet (xLook (lkEq false .str g6 g8)) p9 
(oSet (xMove g9) p4 
oEnd)))))) kRet))⟩
noncomputable def k309 : KFun := ⟨[rTmp (nat_lit 2) g2], (kSeq (oSet (xMove q6) p2 
oEnd) (kSeq (kSeq (oSet (xMove g0) p3 
(oSet (xLook (lkEq false .ptr g3 q5)) p4 
(oSet (xMove g4) p5 
(oSetIf (wantF g5) (xMove g0) p6 
(oSetIf (wantF g5) (xNil g6) p7 
(oSetIf (wantF g5) (xLook (lkFieldAddr (nat_lit 0) g7)) p8 
(oSetIf (wantF g5) (xCall q279 [g8]) p9 
(oSet (xLook (lkPick g5 q2 g9)) p10 
oEnd)))))))) (kCond g10 (kSeq (oSet (xMove q6) p2 
oEnd) kRet) kSkip)) (kSeq (kDraw 
(dLook (nat_lit 0) [] [] (lkMove g0) p11 
(dTurn (nat_lit 1) [] [] false (xNil g11) p12 
(dLook (nat_lit 2) [] [] (lkFieldAddr (nat_lit 0) g12) p13 
(dLook (nat_lit 3) [] [] (lkFieldAddr (nat_lit 1) g13) p14 
(dLook (nat_lit 4) [] [] (lkLoad1 g14) p15 
(dLook (nat_lit 5) [] [] (lkLen .sl g15) p16 
(dLook (nat_lit 6) [] [] (lkMove g0) p17 
(dTurn (nat_lit 7) [] [] false (xNil g17) p18 
(dLook (nat_lit 8) [] [] (lkFieldAddr (nat_lit 4) g18) p19 
(dLook (nat_lit 9) [] [] (lkLoad1 g19) p20 
(dLook (nat_lit 10) [] [] (lkBin .sub g16 g20) p21 
(dLook (nat_lit 11) [] [] (lkMove g21) p2 (dEnd [(nat_lit 11), (nat_lit 12), (nat_lit 13), (nat_lit 14), (nat_lit 15), (nat_lit 16), (nat_lit 17), (nat_lit 18), (nat_lit 19), (nat_lit 20), (nat_lit 21), (nat_lit 2)])))))))))))))) kRet)))⟩
noncomputable def k310 : KFun := ⟨[rTmp (nat_lit 4) g4], (kSeq (oSet (xMove q6) p4 
oEnd) (kSeq (kBlock (nat_lit 0) (kSeq (oSet (xMove g0) p6 
(oSet (xCall q373 [g6]) p7 
(oSet (xMove g7) p5 
oEnd))) (kCond g5 (kSeq (oSet (xMove q16) p4 
oEnd) kRet) (kSeq (oSet (xMove g0) p9 
(oSet (xNil g9) p10 
(oSet (xLook (lkFieldAddr (nat_lit 0) g10)) p11 
(oSet (xLook (lkFieldAddr (nat_lit 2) g11)) p12 
(oSet (xLook (lkLoad1 g12)) p13 
(oSet (xMove g13) p8 
oEnd)))))) (kCond g8 (kSeq (oSet (xMove q140) p4 
oEnd) kRet) (kSeq (oSet (xMove g1) p15 
(oSet (xLook (lkBin .lss g15 q6)) p16 
(oSet (xMove g16) p17 
(oSetIf (wantF g17) (xMove g1) p18 
(oSetIf (wantF g17) (xMove g0) p19 
(oSetIf (wantF g17) (xNil g19) p20 
(oSetIf (wantF g17) (xLook (lkFieldAddr (nat_lit 4) g20)) p21 
(oSetIf (wantF g17) (xLook (lkLoad1 g21)) p22 
(oSetIf (wantF g17) (xLook (lkBin .geq g18 g22)) p23 
(oSet (xLook (lkPick g17 q2 g23)) p24 
(oSet (xMove g24) p14 
oEnd))))))))))) (kCond g14 (kSeq (oSet (xMove q77) p4 
oEnd) kRet) kSkip))))))) (kSeq (oSet (xMove q6) p4 
oEnd) kRet)))⟩
noncomputable def k312 : KFun := ⟨[], (kSeq (oSet xRecover p6 
oEnd) (kBlock (nat_lit 0) (kSeq (oSet (xLook (lkEq false .ifaceNil g6 q152)) p8 
oEnd) (kCond g8 (kSeq (oSet (xMove g6) p3 
oEnd) (oDo (xTurn (tnStore (nat_lit 1) g0 q2)) 
oEnd)) (kSeq (oSet (xLook (lkAssertT (nat_lit 484) (.agg ⟨[(.int .i64 (.ofNat (nat_lit 0))), (.int .i64 (.ofNat (nat_lit 0)))]⟩) true g6)) p9 
(oSet (xLook (lkExtract (nat_lit 1) g9)) p10 
(oSet (xLook (lkExtract (nat_lit 0) g9)) p11 
oEnd))) (kCond g10 (kSeq (oSet (xTurn (tnAlloc q66)) p4 
(oDo (xTurn (tnStore (nat_lit 2) g4 g11)) 
oEnd)) (kDraw 
(dLook (nat_lit 0) [] [] (lkLoad1 g2) p12 
(dLook (nat_lit 1) [] [] (lkLoad1 g2) p13 
(dLook (nat_lit 2) [] [] (lkLoad1 g1) p14 
(dLook (nat_lit 3) [] [] (lkFieldAddr (nat_lit 0) g4) p15 
(dLook (nat_lit 4) [] [] (lkLoadN (nat_lit 2) g15) p16 
(dTurn (nat_lit 5) [] [] false (xNil g12) p17 
(dLook (nat_lit 6) [] [] (lkFieldAddr (nat_lit 4) g17) p18 
(dTurn (nat_lit 7) [(nat_lit 4)] [] true (xTurn (tnStore (nat_lit 1) g18 g14)) noDst 
(dTurn (nat_lit 8) [] [(nat_lit 7)] false (xNil g13) p19 
(dLook (nat_lit 9) [] [(nat_lit 7)] (lkFieldAddr (nat_lit 0) g19) p20 
(dLook (nat_lit 10) [] [(nat_lit 7)] (lkFieldAddr (nat_lit 2) g20) p21 
(dTurn (nat_lit 11) [] [(nat_lit 7)] true (xTurn (tnStore (nat_lit 2) g21 g16)) noDst (dEnd [(nat_lit 12), (nat_lit 13), (nat_lit 14), (nat_lit 15), (nat_lit 16), (nat_lit 17), (nat_lit 18), (nat_lit 19), (nat_lit 20), (nat_lit 21)]))))))))))))))) (kSeq (oSet (xMove g6) p5 
oEnd) (oSet (xMove g5) p7 
(oDo (xPanic g7) 
oEnd)))))))))⟩
noncomputable def k314 : KFun := ⟨[rTmp (nat_lit 4) g4], (kSeq (oSet (xMove q18) p4 
oEnd) (kSeq (kSeq (kDraw 
(dLook (nat_lit 0) [] [] (lkMove g1) p5 
(dLook (nat_lit 1) [] [] (lkMove g0) p6 
(dTurn (nat_lit 2) [] [] false (xNil g6) p7 
(dLook (nat_lit 3) [] [] (lkFieldAddr (nat_lit 0) g7) p8 
(dLook (nat_lit 4) [] [] (lkFieldAddr (nat_lit 1) g8) p9 
(dLook (nat_lit 5) [] [] (lkLoad1 g9) p10 
(dLook (nat_lit 6) [] [] (lkLen .sl g10) p11 
(dLook (nat_lit 7) [] [] (lkMove g0) p12 
(dTurn (nat_lit 8) [] [] false (xNil g12) p13 
(dLook (nat_lit 9) [] [] (lkFieldAddr (nat_lit 4) g13) p14 
(dLook (nat_lit 10) [] [] (lkLoad1 g14) p15 
(dLook (nat_lit 11) [] [] (lkBin .sub g11 g15) p16 
(dLook (nat_lit 12) [] [] (lkBin .gtr g5 g16) p17 (dEnd [(nat_lit 5), (nat_lit 6), (nat_lit 7), (nat_lit 8), (nat_lit 9), (nat_lit 10), (nat_lit 11), (nat_lit 12), (nat_lit 13), (nat_lit 14), (nat_lit 15), (nat_lit 16), (nat_lit 17)]))))))))))))))) (kCond g17 (oSet (xMove g0) p18 
(oSet (xNil g18) p19 
(oSet (xLook (lkFieldAddr (nat_lit 0) g19)) p20 
(oSet (xLook (lkFieldAddr (nat_lit 1) g20)) p21 
(oSet (xLook (lkLoad1 g21)) p22 
(oSet (xLook (lkLen .sl g22)) p23 
(oSet (xLook (lkBuild q66 [((nat_lit 0), (nat_lit 1), q149), ((nat_lit 1), (nat_lit 1), g23)])) p24 
(oSet (xLook (lkBuild q66 [((nat_lit 0), (nat_lit 2), g24)])) p25 
(oSet (xLook (lkMkIface (nat_lit 484) g25)) p26 
(oDo (xPanic g26) 
oEnd)))))))))) kSkip)) (kSeq (oSet (xMove g0) p27 
(oSet (xNil g27) p28 
(oSet (xLook (lkFieldAddr (nat_lit 4) g28)) p29 
(oSet (xLook (lkLoad1 g29)) p30 
(oSet (xMove g1) p31 
(oSet (xLook (lkBin .add g30 g31)) p32 
(oSet (xNil g27) p33 
(oSet (xLook (lkFieldAddr (nat_lit 4) g33)) p34 
(oDo (xTurn (tnStore (nat_lit 1) g34 g32)) 
oEnd))))))))) (kSeq (kDraw 
(dLook (nat_lit 0) [] [] (lkMove g0) p35 
(dTurn (nat_lit 1) [] [] false (xNil g35) p36 
(dLook (nat_lit 2) [] [] (lkFieldAddr (nat_lit 0) g36) p37 
(dLook (nat_lit 3) [] [] (lkFieldAddr (nat_lit 1) g37) p38 
(dLook (nat_lit 4) [] [] (lkLoad1 g38) p39 
(dLook (nat_lit 5) [] [] (lkMove g0) p40 
(dTurn (nat_lit 6) [] [] false (xNil g40) p41 
(dLook (nat_lit 7) [] [] (lkFieldAddr (nat_lit 4) g41) p42 
(dLook (nat_lit 8) [] [] (lkLoad1 g42) p43 
(dLook (nat_lit 9) [] [] (lkMove g1) p44 
(dLook (nat_lit 10) [] [] (lkBin .sub g43 g44) p45 
(dLook (nat_lit 11) [] [] (lkMove g0) p46 
(dTurn (nat_lit 12) [] [] false (xNil g46) p47 
(dLook (nat_lit 13) [] [] (lkFieldAddr (nat_lit 4) g47) p48 
(dLook (nat_lit 14) [] [] (lkLoad1 g48) p49 
(dLook (nat_lit 15) [] [] (lkSliceSl (nat_lit 1) g39 (some g45) (some g49) none) p50 
(dLook (nat_lit 16) [] [] (lkMove g50) p4 (dEnd [(nat_lit 35), (nat_lit 36), (nat_lit 37), (nat_lit 38), (nat_lit 39), (nat_lit 40), (nat_lit 41), (nat_lit 42), (nat_lit 43), (nat_lit 44), (nat_lit 45), (nat_lit 46), (nat_lit 47), (nat_lit 48), (nat_lit 49), (nat_lit 50), (nat_lit 4)]))))))))))))))))))) kRet))))⟩
noncomputable def k315 : KFun := ⟨[], (oSet (xLook (lkLoad1 g0)) p4 
(oSet (xLook (lkLoad1 g1)) p5 
(oSet (xLook (lkLoad1 g2)) p6 
(oSet (xCall q390 [g4, g5, g6, q77]) p7 
(oDo (xTurn (tnStore (nat_lit 1) g3 g7)) 
oEnd)))))⟩
noncomputable def k316 : KFun := ⟨[], (kDraw 
(dLook (nat_lit 0) [] [] (lkLoad1 g0) p3 
(dLook (nat_lit 1) [] [] (lkLoad1 g0) p4 
(dLook (nat_lit 2) [] [] (lkLoad1 g1) p5 
(dTurn (nat_lit 3) [(nat_lit 0)] [] true (xCall q390 [g4, q6, g5, q83]) p6 
(dTurn (nat_lit 4) [] [(nat_lit 3)] true (xCall q391 [g3, g6]) p7 
(dLook (nat_lit 5) [] [(nat_lit 3), (nat_lit 4)] (lkBytesTo g7) p8 
(dTurn (nat_lit 6) [] [(nat_lit 3), (nat_lit 4)] true (xTurn (tnStore (nat_lit 1) g2 g8)) noDst (dEnd [(nat_lit 3), (nat_lit 4), (nat_lit 5), (nat_lit 6), (nat_lit 7), (nat_lit 8)])))))))))⟩
noncomputable def k317 : KFun := ⟨[], (kSeq (oSet (xTurn (tnBox g1)) p3 
oEnd) (kDraw 
(dLook (nat_lit 0) [] [] (lkMove g0) p4 
(dLook (nat_lit 1) [] [] (lkFieldAddr (nat_lit 1) g3) p5 
(dLook (nat_lit 2) [] [] (lkLoad1 g5) p6 
(dLook (nat_lit 3) [] [] (lkFieldAddr (nat_lit 5) g3) p7 
(dLook (nat_lit 4) [] [] (lkLoad1 g7) p8 
(dTurn (nat_lit 5) [] [] false (xNil g4) p9 
(dLook (nat_lit 6) [] [] (lkFieldAddr (nat_lit 0) g9) p10 
(dLook (nat_lit 7) [] [] (lkFieldAddr (nat_lit 0) g10) p11 
(dLook (nat_lit 8) [] [] (lkIxArr (nat_lit 8) (nat_lit 1) g11 g6) p12 
(dTurn (nat_lit 9) [] [] true (xTurn (tnStore (nat_lit 1) g12 g8)) noDst (dEnd [(nat_lit 4), (nat_lit 5), (nat_lit 6), (nat_lit 7), (nat_lit 8), (nat_lit 9), (nat_lit 10), (nat_lit 11), (nat_lit 12)])))))))))))))⟩
def q514 : OpdF := kC (.func (.func (nat_lit 392)) ⟨[]⟩ ⟨[]⟩)
def q517 : OpdF := kC (.func (.func (nat_lit 394)) ⟨[]⟩ ⟨[]⟩)
noncomputable def k320 : KFun := ⟨[], (kSeq (oSet (xTurn (tnBox g1)) p3 
oEnd) (kSeq (oSet (xMove g0) p5 
(oSet (xLook (lkFieldAddr (nat_lit 1) g3)) p6 
(oSet (xLook (lkLoad1 g6)) p7 
(oSet (xCall q514 [g5, g7]) p8 
(oSet (xMove g8) p4 
oEnd))))) (kDraw 
(dLook (nat_lit 0) [] [] (lkMove g0) p9 
(dTurn (nat_lit 1) [] [] false (xNil g9) p10 
(dLook (nat_lit 2) [] [] (lkFieldAddr (nat_lit 8) g10) p11 
(dLook (nat_lit 3) [] [] (lkMove g4) p12 
(dLook (nat_lit 4) [] [] (lkMove g0) p13 
(dLook (nat_lit 5) [] [] (lkFieldAddr (nat_lit 2) g3) p14 
(dLook (nat_lit 6) [] [] (lkLoad1 g14) p15 
(dTurn (nat_lit 7) [] [] false (xNil g13) p16 
(dLook (nat_lit 8) [] [] (lkFieldAddr (nat_lit 0) g16) p17 
(dLook (nat_lit 9) [] [] (lkFieldAddr (nat_lit 0) g17) p18 
(dLook (nat_lit 10) [] [] (lkIxArr (nat_lit 8) (nat_lit 1) g18 g15) p19 
(dLook (nat_lit 11) [] [] (lkLoad1 g19) p20 
(dLook (nat_lit 12) [] [] (lkBuild q167 [((nat_lit 0), (nat_lit 1), g12), ((nat_lit 1), (nat_lit 1), g20)]) p21 
(dTurn (nat_lit 13) [] [] true (xCall q517 [g11, g21]) p22 (dEnd [(nat_lit 9), (nat_lit 10), (nat_lit 11), (nat_lit 12), (nat_lit 13), (nat_lit 14), (nat_lit 15), (nat_lit 16), (nat_lit 17), (nat_lit 18), (nat_lit 19), (nat_lit 20), (nat_lit 21), (nat_lit 22)]))))))))))))))))))⟩
def q525 : OpdF := kC (.func (.func (nat_lit 401)) ⟨[]⟩ ⟨[]⟩)
noncomputable def k332 : KFun := ⟨[rTmp (nat_lit 2) g2], (kSeq (oSet (xMove q18) p2 
oEnd) (kSeq (oSet (xMove g0) p3 
(oSet (xCall q525 [q18, g3]) p4 
(oSet (xMove g4) p2 
oEnd))) kRet))⟩
def q526 : OpdF := kC (.func (.func (nat_lit 402)) ⟨[]⟩ ⟨[]⟩)
noncomputable def k333 : KFun := ⟨[], (kSeq (oSet (xMove g0) p3 
(oSet (xLook (lkLen .sl g3)) p4 
(oSet (xMove g4) p2 
oEnd))) (oSet (xMove g0) p5 
(oSet (xMove g2) p6 
(oSet (xMove g2) p7 
(oSet (xLook (lkIntTo .u64 g7)) p8 
(oSet (xCall q221 [g8]) p9 
(oSet (xCall q526 [g5, q6, g6, g9]) p10 
oEnd)))))))⟩
noncomputable def k334 : KFun := ⟨[], (kSeq (oSet (xLook (lkLoad1 g1)) p4 
(oSet (xTurn (tnRangeMap g4)) p5 
oEnd)) (kBlock (nat_lit 0) (kLoop (kSeq (oSet (xNextMap g5) p6 
(oSet (xLook (lkExtract (nat_lit 0) g6)) p7 
oEnd)) (kSeq (kCond g7 kSkip (kExit (nat_lit 0))) (kBlock (nat_lit 1) (kSeq (oSet (xLook (lkEntry g5)) p8 
(oSet (xLook (lkExtract (nat_lit 0) g8)) p9 
(oSet (xMove g9) p3 
oEnd))) (kSeq (oSet (xMove g0) p10 
(oSet (xMove g3) p11 
(oSet (xCall g10 [g11]) p12 
(oSet (xLook (lkUn .not g12)) p13 
oEnd)))) (kCond g13 kRet kSkip)))))))))⟩
def q527 : OpdF := kC (.func (.func (nat_lit 403)) ⟨[]⟩ ⟨[]⟩)
noncomputable def k335 : KFun := ⟨[rTmp (nat_lit 4) g4], (kSeq (oSet (xMove q18) p4 
oEnd) (kSeq (oSet (xMove g0) p8 
(oSet (xMove g1) p9 
(oSet (xCall q527 [g8, g9]) p10 
(oSet (xMove g10) p5 
oEnd)))) (kSeq (kSeq (oSet (xMove g5) p11 
(oSet (xLook (lkEq false .int g11 q269)) p12 
oEnd)) (kCond g12 (kSeq (oSet (xMove g0) p13 
(oSet (xMove g13) p4 
oEnd)) kRet) kSkip)) (kSeq (kSeq (oSet (xMove g5) p14 
(oSet (xLook (lkBin .add g14 q16)) p15 
(oSet (xMove g15) p6 
oEnd))) (kBlock (nat_lit 0) (kLoop (kSeq (kSeq (oSet (xMove g6) p16 
(oSet (xMove g0) p17 
(oSet (xLook (lkLen .sl g17)) p18 
(oSet (xLook (lkBin .lss g16 g18)) p19 
oEnd)))) (kCond g19 kSkip (kExit (nat_lit 0)))) (kSeq (kBlock (nat_lit 1) (kSeq (oSet (xMove g0) p22 
(oSet (xMove g6) p23 
(oSet (xLook (lkIxSl (nat_lit 2) g22 g23)) p24 
(oSet (xLook (lkLoadN (nat_lit 2) g24)) p25 
(oSet (xTurn (tnAlloc q52)) p7 
(oDo (xTurn (tnStore (nat_lit 2) g7 g25)) 
oEnd)))))) (kSeq (oSet (xMove g1) p26 
(oSet (xLook (lkLoadN (nat_lit 2) g7)) p27 
(oSet (xCall g26 [g27]) p28 
(oSet (xLook (lkUn .not g28)) p29 
oEnd)))) (kCond g29 (kSeq (oSet (xMove g0) p30 
(oSet (xMove g5) p31 
(oSet (xLook (lkLoadN (nat_lit 2) g7)) p32 
(oSet (xLook (lkIxSl (nat_lit 2) g30 g31)) p33 
(oDo (xTurn (tnStore (nat_lit 2) g33 g32)) 
oEnd))))) (oSet (xMove g5) p34 
(oSet (xLook (lkBin .add g34 q16)) p35 
(oSet (xMove g35) p5 
oEnd)))) kSkip)))) (oSet (xMove g6) p20 
(oSet (xLook (lkBin .add g20 q16)) p21 
(oSet (xMove g21) p6 
oEnd)))))))) (kSeq (oSet (xMove g0) p36 
(oSet (xMove g5) p37 
(oSet (xLook (lkSliceSl (nat_lit 2) g36 (some g37) none none)) p38 
(oDo (xTurn (tnClear q52 g38)) 
oEnd)))) (kSeq (oSet (xMove g0) p39 
(oSet (xMove g5) p40 
(oSet (xLook (lkSliceSl (nat_lit 2) g39 none (some g40) none)) p41 
(oSet (xMove g41) p4 
oEnd)))) kRet))))))⟩
def q528 : OpdF := kC (.func (.func (nat_lit 404)) ⟨[]⟩ ⟨[]⟩)
noncomputable def k337 : KFun := ⟨[], (kSeq (oSet (xMove g0) p5 
(oSet (xLook (lkLen .sl g5)) p6 
(oSet (xMove g6) p4 
oEnd))) (oSet (xMove g0) p7 
(oSet (xMove g4) p8 
(oSet (xMove g4) p9 
(oSet (xLook (lkIntTo .u64 g9)) p10 
(oSet (xCall q221 [g10]) p11 
(oSet (xMove g1) p12 
(oSet (xCall q528 [g7, q6, g8, g11, g12]) p13 
oEnd))))))))⟩
noncomputable def k341 : KFun := ⟨[], (kSeq (oSet (xLook (lkLoad1 g1)) p4 
(oSet (xTurn (tnRangeMap g4)) p5 
oEnd)) (kBlock (nat_lit 0) (kLoop (kSeq (oSet (xNextMap g5) p6 
(oSet (xLook (lkExtract (nat_lit 0) g6)) p7 
oEnd)) (kSeq (kCond g7 kSkip (kExit (nat_lit 0))) (kBlock (nat_lit 1) (kSeq (oSet (xLook (lkEntry g5)) p8 
(oSet (xLook (lkExtract (nat_lit 0) g8)) p9 
(oSet (xMove g9) p3 
oEnd))) (kSeq (oSet (xMove g0) p10 
(oSet (xMove g3) p11 
(oSet (xCall g10 [g11]) p12 
(oSet (xLook (lkUn .not g12)) p13 
oEnd)))) (kCond g13 kRet kSkip)))))))))⟩
noncomputable def k342 : KFun := ⟨[rTmp (nat_lit 2) g2], (kSeq (oSet (xTurn (tnBox g0)) p1 
(oSet (xMove q225) p2 
oEnd)) (kSeq (oSet (xLook (lkMkFunc (.func (nat_lit 406)) [] [g1])) p3 
(oSet (xMove g3) p2 
oEnd)) kRet))⟩
noncomputable def k345 : KFun := ⟨[rTmp (nat_lit 4) g4], (kSeq (oSet (xTurn (tnBox g0)) p2 
(oSet (xMove q18) p4 
oEnd)) (kSeq (oSet (xMove q18) p5 
oEnd) (kSeq (kSeq (oSet (xLook (lkFieldAddr (nat_lit 0) g2)) p7 
(oSet (xLook (lkLoad1 g7)) p8 
(oSet (xCall q155 [g8, q156]) p9 
(oSet (xMove g9) p6 
oEnd)))) (kBlock (nat_lit 0) (kLoop (kSeq (kSeq (oSet (xMove g6) p10 
(oSet (xLook (lkBin .gtr g10 q6)) p11 
(oSet (xMove g11) p12 
(oSetIf (wantT g12) (xLook (lkFieldAddr (nat_lit 0) g2)) p13 
(oSetIf (wantT g12) (xLook (lkLoad1 g13)) p14 
(oSetIf (wantT g12) (xCall q157 [g14]) p15 
(oSetIf (wantT g12) (xLook (lkField1 (nat_lit 0) g15)) p16 
(oSetIf (wantT g12) (xLook (lkEq false .int g16 q6)) p17 
(oSet (xLook (lkPick g12 g17 q0)) p18 
oEnd))))))))) (kCond g18 kSkip (kExit (nat_lit 0)))) (kSeq (kBlock (nat_lit 1) (oSet (xMove g5) p21 
(oSet (xMove g1) p22 
(oSet (xCall g22 []) p23 
(oSet (xTurn (tnBuildSlice q200 [((nat_lit 0), (nat_lit 1), g23)] (nat_lit 1))) p24 
(oSet (xTurn (tnAppend (nat_lit 1) g21 g24)) p25 
(oSet (xMove g25) p5 
oEnd))))))) (oSet (xMove g6) p19 
(oSet (xLook (lkBin .sub g19 q16)) p20 
(oSet (xMove g20) p6 
oEnd)))))))) (kSeq (oSet (xMove g5) p26 
(oSet (xMove g26) p4 
oEnd)) kRet))))⟩
noncomputable def k346 : KFun := ⟨[rTmp (nat_lit 2) g2], (kSeq (oSet (xTurn (tnBox g0)) p1 
(oSet (xMove q111) p2 
oEnd)) (kSeq (oSet (xLook (lkFieldAddr (nat_lit 0) g1)) p3 
(oSet (xLook (lkLoad1 g3)) p4 
(oSet (xCall q284 [g4, q289]) p5 
(oSet (xMove g5) p2 
oEnd)))) kRet))⟩
noncomputable def k347 : KFun := ⟨[rTmp (nat_lit 4) g4], (kSeq (oSet (xTurn (tnBox g0)) p2 
(oSet (xMove q18) p4 
oEnd)) (kSeq (oSet (xMove q18) p5 
oEnd) (kSeq (kSeq (oSet (xLook (lkFieldAddr (nat_lit 0) g2)) p7 
(oSet (xLook (lkLoad1 g7)) p8 
(oSet (xCall q155 [g8, q156]) p9 
(oSet (xMove g9) p6 
oEnd)))) (kBlock (nat_lit 0) (kLoop (kSeq (kSeq (oSet (xMove g6) p10 
(oSet (xLook (lkBin .gtr g10 q6)) p11 
(oSet (xMove g11) p12 
(oSetIf (wantT g12) (xLook (lkFieldAddr (nat_lit 0) g2)) p13 
(oSetIf (wantT g12) (xLook (lkLoad1 g13)) p14 
(oSetIf (wantT g12) (xCall q157 [g14]) p15 
(oSetIf (wantT g12) (xLook (lkField1 (nat_lit 0) g15)) p16 
(oSetIf (wantT g12) (xLook (lkEq false .int g16 q6)) p17 
(oSet (xLook (lkPick g12 g17 q0)) p18 
oEnd))))))))) (kCond g18 kSkip (kExit (nat_lit 0)))) (kSeq (kBlock (nat_lit 1) (oSet (xMove g5) p21 
(oSet (xMove g1) p22 
(oSet (xCall g22 []) p23 
(oSet (xTurn (tnBuildSlice q52 [((nat_lit 0), (nat_lit 2), g23)] (nat_lit 1))) p24 
(oSet (xTurn (tnAppend (nat_lit 2) g21 g24)) p25 
(oSet (xMove g25) p5 
oEnd))))))) (oSet (xMove g6) p19 
(oSet (xLook (lkBin .sub g19 q16)) p20 
(oSet (xMove g20) p6 
oEnd)))))))) (kSeq (oSet (xMove g5) p26 
(oSet (xMove g26) p4 
oEnd)) kRet))))⟩
noncomputable def k349 : KFun := ⟨[rTmp (nat_lit 4) g4], (kSeq (oSet (xTurn (tnBox g0)) p2 
(oSet (xMove q18) p4 
oEnd)) (kSeq (oSet (xMove q18) p5 
oEnd) (kSeq (kSeq (oSet (xLook (lkFieldAddr (nat_lit 0) g2)) p7 
(oSet (xLook (lkLoad1 g7)) p8 
(oSet (xCall q155 [g8, q156]) p9 
(oSet (xMove g9) p6 
oEnd)))) (kBlock (nat_lit 0) (kLoop (kSeq (kSeq (oSet (xMove g6) p10 
(oSet (xLook (lkBin .gtr g10 q6)) p11 
(oSet (xMove g11) p12 
(oSetIf (wantT g12) (xLook (lkFieldAddr (nat_lit 0) g2)) p13 
(oSetIf (wantT g12) (xLook (lkLoad1 g13)) p14 
(oSetIf (wantT g12) (xCall q157 [g14]) p15 
(oSetIf (wantT g12) (xLook (lkField1 (nat_lit 0) g15)) p16 
(oSetIf (wantT g12) (xLook (lkEq false .int g16 q6)) p17 
(oSet (xLook (lkPick g12 g17 q0)) p18 
oEnd))))))))) (kCond g18 kSkip (kExit (nat_lit 0)))) (kSeq (kBlock (nat_lit 1) (oSet (xMove g5) p21 
(oSet (xMove g1) p22 
(oSet (xCall g22 []) p23 
(oSet (xTurn (tnBuildSlice q167 [((nat_lit 0), (nat_lit 3), g23)] (nat_lit 1))) p24 
(oSet (xTurn (tnAppend (nat_lit 3) g21 g24)) p25 
(oSet (xMove g25) p5 
oEnd))))))) (oSet (xMove g6) p19 
(oSet (xLook (lkBin .sub g19 q16)) p20 
(oSet (xMove g20) p6 
oEnd)))))))) (kSeq (oSet (xMove g5) p26 
(oSet (xMove g26) p4 
oEnd)) kRet))))⟩
def q534 : OpdF := kC (.func (.func (nat_lit 346)) ⟨[]⟩ ⟨[]⟩)
noncomputable def k350 : KFun := ⟨[rCellN (nat_lit 2) g2 (nat_lit 3)], (kSeq (oSet (xTurn (tnBox g0)) p1 
(oSet (xTurn (tnAlloc q167)) p2 
oEnd)) (kSeq (oSet (xLook (lkLoadN (nat_lit 1) g1)) p4 
(oSet (xCall q534 [g4]) p5 
(oSet (xLook (lkBuild q167 [((nat_lit 0), (nat_lit 1), g5)])) p6 
(oSet (xTurn (tnAlloc q167)) p3 
(oDo (xTurn (tnStore (nat_lit 3) g3 g6)) 
oEnd))))) (kSeq (kSeq (oSet (xLook (lkFieldAddr (nat_lit 0) g1)) p7 
(oSet (xLook (lkLoad1 g7)) p8 
(oSet (xCall q280 [g8, q6, q16]) p9 
(oSet (xLook (lkEq false .int g9 q16)) p10 
(oSet (xLook (lkFieldAddr (nat_lit 2) g3)) p11 
(oDo (xTurn (tnStore (nat_lit 1) g11 g10)) 
oEnd)))))) (kSeq (oSet (xLook (lkFieldAddr (nat_lit 2) g3)) p12 
(oSet (xLook (lkLoad1 g12)) p13 
(oSet (xLook (lkUn .not g13)) p14 
oEnd))) (kCond g14 (oSet (xLook (lkFieldAddr (nat_lit 0) g1)) p15 
(oSet (xLook (lkLoad1 g15)) p16 
(oSet (xCall q284 [g16, q254]) p17 
(oSet (xLook (lkFieldAddr (nat_lit 1) g3)) p18 
(oDo (xTurn (tnStore (nat_lit 1) g18 g17)) 
oEnd))))) kSkip))) (kSeq (oSet (xLook (lkLoadN (nat_lit 3) g3)) p19 
(oDo (xTurn (tnStore (nat_lit 3) g2 g19)) 
oEnd)) kRet))))⟩
noncomputable def k352 : KFun := ⟨[rTmp (nat_lit 2) g2], (kSeq (oSet (xTurn (tnBox g0)) p1 
(oSet (xMove q6) p2 
oEnd)) (kSeq (oSet (xLook (lkFieldAddr (nat_lit 1) g1)) p6 
(oSet (xLook (lkLoad1 g6)) p7 
(oSet (xLook (lkLen .sl g7)) p8 
(oSet (xMove g8) p3 
oEnd)))) (kSeq (kSeq (oSet (xLook (lkFieldAddr (nat_lit 2) g1)) p9 
(oSet (xLook (lkLoad1 g9)) p10 
(oSet (xLook (lkLen .sl g10)) p11 
(oSet (xMove q6) p12 
oEnd)))) (kBlock (nat_lit 0) (kLoop (kSeq (oSet (xLook (lkBin .lss g12 g11)) p13 
oEnd) (kSeq (kCond g13 kSkip (kExit (nat_lit 0))) (kSeq (kBlock (nat_lit 1) (kSeq (oSet (xLook (lkIxSl (nat_lit 33) g10 g12)) p14 
(oSet (xLook (lkLoadN (nat_lit 33) g14)) p15 
(oSet (xTurn (tnAlloc q308)) p5 
(oDo (xTurn (tnStore (nat_lit 33) g5 g15)) 
oEnd)))) (oSet (xMove g3) p16 
(oSet (xLook (lkFieldAddr (nat_lit 32) g5)) p17 
(oSet (xLook (lkLoad1 g17)) p18 
(oSet (xLook (lkBin .add g16 g18)) p19 
(oSet (xMove g19) p3 
oEnd))))))) (oSet (xLook (lkBin .add g12 q16)) p20 
(oSet (xMove g20) p12 
oEnd)))))))) (kSeq (oSet (xMove g3) p21 
(oSet (xMove g21) p2 
oEnd)) kRet))))⟩
def q547 : OpdF := kC (.int .u64 (.ofNat (nat_lit 31)))
def q562 : OpdF := kC (.int .u32 (.ofNat (nat_lit 0)))
def q563 : OpdF := kC (.func (.func (nat_lit 424)) ⟨[]⟩ ⟨[]⟩)
noncomputable def k371 : KFun := ⟨[rTmp (nat_lit 4) g4], (kSeq (oSet (xMove q562) p4 
oEnd) (kSeq (oSet (xMove g0) p5 
(oSet (xMove g1) p6 
(oSet (xLook (lkUn .neg g6)) p7 
(oSet (xCall q563 [g5, g7]) p8 
(oSet (xMove g8) p4 
oEnd))))) kRet))⟩
def q564 : OpdF := kC (.int .u32 (.ofNat (nat_lit 1116352408)))
def q565 : OpdF := kC (.int .u32 (.ofNat (nat_lit 1899447441)))
def q566 : OpdF := kC (.int .u32 (.ofNat (nat_lit 3049323471)))
def q567 : OpdF := kC (.int .u32 (.ofNat (nat_lit 3921009573)))
def q568 : OpdF := kC (.int .u32 (.ofNat (nat_lit 961987163)))
def q569 : OpdF := kC (.int .u32 (.ofNat (nat_lit 1508970993)))
def q570 : OpdF := kC (.int .u32 (.ofNat (nat_lit 2453635748)))
def q571 : OpdF := kC (.int .u32 (.ofNat (nat_lit 2870763221)))
def q572 : OpdF := kC (.int .u32 (.ofNat (nat_lit 3624381080)))
def q573 : OpdF := kC (.int .u32 (.ofNat (nat_lit 310598401)))
def q574 : OpdF := kC (.int .u32 (.ofNat (nat_lit 607225278)))
def q575 : OpdF := kC (.int .u32 (.ofNat (nat_lit 1426881987)))
def q576 : OpdF := kC (.int .u32 (.ofNat (nat_lit 1925078388)))
def q577 : OpdF := kC (.int .u32 (.ofNat (nat_lit 2162078206)))
def q578 : OpdF := kC (.int .u32 (.ofNat (nat_lit 2614888103)))
def q579 : OpdF := kC (.int .u32 (.ofNat (nat_lit 3248222580)))
def q580 : OpdF := kC (.int .u32 (.ofNat (nat_lit 3835390401)))
def q581 : OpdF := kC (.int .u32 (.ofNat (nat_lit 4022224774)))
def q582 : OpdF := kC (.int .u32 (.ofNat (nat_lit 264347078)))
def q583 : OpdF := kC (.int .u32 (.ofNat (nat_lit 604807628)))
def q584 : OpdF := kC (.int .u32 (.ofNat (nat_lit 770255983)))
def q585 : OpdF := kC (.int .u32 (.ofNat (nat_lit 1249150122)))
def q586 : OpdF := kC (.int .u32 (.ofNat (nat_lit 1555081692)))
def q587 : OpdF := kC (.int .u32 (.ofNat (nat_lit 1996064986)))
def q588 : OpdF := kC (.int .u32 (.ofNat (nat_lit 2554220882)))
def q589 : OpdF := kC (.int .u32 (.ofNat (nat_lit 2821834349)))
def q590 : OpdF := kC (.int .u32 (.ofNat (nat_lit 2952996808)))
def q591 : OpdF := kC (.int .u32 (.ofNat (nat_lit 3210313671)))
def q592 : OpdF := kC (.int .u32 (.ofNat (nat_lit 3336571891)))
def q593 : OpdF := kC (.int .u32 (.ofNat (nat_lit 3584528711)))
def q594 : OpdF := kC (.int .u32 (.ofNat (nat_lit 113926993)))
def q595 : OpdF := kC (.int .u32 (.ofNat (nat_lit 338241895)))
def q596 : OpdF := kC (.int .u32 (.ofNat (nat_lit 666307205)))
def q597 : OpdF := kC (.int .u32 (.ofNat (nat_lit 773529912)))
def q598 : OpdF := kC (.int .u32 (.ofNat (nat_lit 1294757372)))
def q599 : OpdF := kC (.int .u32 (.ofNat (nat_lit 1396182291)))
def q600 : OpdF := kC (.int .u32 (.ofNat (nat_lit 1695183700)))
def q601 : OpdF := kC (.int .u32 (.ofNat (nat_lit 1986661051)))
def q602 : OpdF := kC (.int .u32 (.ofNat (nat_lit 2177026350)))
def q603 : OpdF := kC (.int .u32 (.ofNat (nat_lit 2456956037)))
def q604 : OpdF := kC (.int .u32 (.ofNat (nat_lit 2730485921)))
def q605 : OpdF := kC (.int .u32 (.ofNat (nat_lit 2820302411)))
def q606 : OpdF := kC (.int .u32 (.ofNat (nat_lit 3259730800)))
def q607 : OpdF := kC (.int .u32 (.ofNat (nat_lit 3345764771)))
def q608 : OpdF := kC (.int .u32 (.ofNat (nat_lit 3516065817)))
def q609 : OpdF := kC (.int .u32 (.ofNat (nat_lit 3600352804)))
def q610 : OpdF := kC (.int .u32 (.ofNat (nat_lit 4094571909)))
def q611 : OpdF := kC (.int .u32 (.ofNat (nat_lit 275423344)))
def q612 : OpdF := kC (.int .u32 (.ofNat (nat_lit 430227734)))
def q613 : OpdF := kC (.int .u32 (.ofNat (nat_lit 506948616)))
def q614 : OpdF := kC (.int .u32 (.ofNat (nat_lit 659060556)))
def q615 : OpdF := kC (.int .u32 (.ofNat (nat_lit 883997877)))
def q616 : OpdF := kC (.int .u32 (.ofNat (nat_lit 958139571)))
def q617 : OpdF := kC (.int .u32 (.ofNat (nat_lit 1322822218)))
def q618 : OpdF := kC (.int .u32 (.ofNat (nat_lit 1537002063)))
def q619 : OpdF := kC (.int .u32 (.ofNat (nat_lit 1747873779)))
def q620 : OpdF := kC (.int .u32 (.ofNat (nat_lit 1955562222)))
def q621 : OpdF := kC (.int .u32 (.ofNat (nat_lit 2024104815)))
def q622 : OpdF := kC (.int .u32 (.ofNat (nat_lit 2227730452)))
def q623 : OpdF := kC (.int .u32 (.ofNat (nat_lit 2361852424)))
def q624 : OpdF := kC (.int .u32 (.ofNat (nat_lit 2428436474)))
def q625 : OpdF := kC (.int .u32 (.ofNat (nat_lit 2756734187)))
def q626 : OpdF := kC (.int .u32 (.ofNat (nat_lit 3204031479)))
def q627 : OpdF := kC (.int .u32 (.ofNat (nat_lit 3329325298)))
noncomputable def k372 : KFun := ⟨[rCellN (nat_lit 0) g0 (nat_lit 64)], (kSeq (oSet (xTurn (tnAlloc q481)) p0 
oEnd) (kSeq (oSet (xLook (lkBuild q481 [((nat_lit 0), (nat_lit 1), q564), ((nat_lit 1), (nat_lit 1), q565), ((nat_lit 2), (nat_lit 1), q566), ((nat_lit 3), (nat_lit 1), q567), ((nat_lit 4), (nat_lit 1), q568), ((nat_lit 5), (nat_lit 1), q569), ((nat_lit 6), (nat_lit 1), q570), ((nat_lit 7), (nat_lit 1), q571), ((nat_lit 8), (nat_lit 1), q572), ((nat_lit 9), (nat_lit 1), q573), ((nat_lit 10), (nat_lit 1), q574), ((nat_lit 11), (nat_lit 1), q575), ((nat_lit 12), (nat_lit 1), q576), ((nat_lit 13), (nat_lit 1), q577), ((nat_lit 14), (nat_lit 1), q578), ((nat_lit 15), (nat_lit 1), q579), ((nat_lit 16), (nat_lit 1), q580), ((nat_lit 17), (nat_lit 1), q581), ((nat_lit 18), (nat_lit 1), q582), ((nat_lit 19), (nat_lit 1), q583), ((nat_lit 20), (nat_lit 1), q584), ((nat_lit 21), (nat_lit 1), q585), ((nat_lit 22), (nat_lit 1), q586), ((nat_lit 23), (nat_lit 1), q587), ((nat_lit 24), (nat_lit 1), q588), ((nat_lit 25), (nat_lit 1), q589), ((nat_lit 26), (nat_lit 1), q590), ((nat_lit 27), (nat_lit 1), q591), ((nat_lit 28), (nat_lit 1), q592), ((nat_lit 29), (nat_lit 1), q593), ((nat_lit 30), (nat_lit 1), q594), ((nat_lit 31), (nat_lit 1), q595), ((nat_lit 32), (nat_lit 1), q596), ((nat_lit 33), (nat_lit 1), q597), ((nat_lit 34), (nat_lit 1), q598), ((nat_lit 35), (nat_lit 1), q599), ((nat_lit 36), (nat_lit 1), q600), ((nat_lit 37), (nat_lit 1), q601), ((nat_lit 38), (nat_lit 1), q602), ((nat_lit 39), (nat_lit 1), q603), ((nat_lit 40), (nat_lit 1), q604), ((nat_lit 41), (nat_lit 1), q605), ((nat_lit 42), (nat_lit 1), q606), ((nat_lit 43), (nat_lit 1), q607), ((nat_lit 44), (nat_lit 1), q608), ((nat_lit 45), (nat_lit 1), q609), ((nat_lit 46), (nat_lit 1), q610), ((nat_lit 47), (nat_lit 1), q611), ((nat_lit 48), (nat_lit 1), q612), ((nat_lit 49), (nat_lit 1), q613), ((nat_lit 50), (nat_lit 1), q614), ((nat_lit 51), (nat_lit 1), q615), ((nat_lit 52), (nat_lit 1), q616), ((nat_lit 53), (nat_lit 1), q617), ((nat_lit 54), (nat_lit 1), q618), ((nat_lit 55), (nat_lit 1), q619), ((nat_lit 56), (nat_lit 1), q620), ((nat_lit 57), (nat_lit 1), q621), ((nat_lit 58), (nat_lit 1), q622), ((nat_lit 59), (nat_lit 1), q623), ((nat_lit 60), (nat_lit 1), q624), ((nat_lit 61), (nat_lit 1), q625), ((nat_lit 62), (nat_lit 1), q626), ((nat_lit 63), (nat_lit 1), q627)])) p1 
(oDo (xTurn (tnStore (nat_lit 64) g0 g1)) 
oEnd)) kRet))⟩
noncomputable def k373 : KFun := ⟨[rTmp (nat_lit 2) g2], (kSeq (oSet (xTurn (tnBox g0)) p1 
(oSet (xMove q6) p2 
oEnd)) (kSeq (oSet (xLook (lkFieldAddr (nat_lit 0) g1)) p3 
(oSet (xLook (lkLoad1 g3)) p4 
(oSet (xLook (lkFieldAddr (nat_lit 1) g1)) p5 
(oSet (xLook (lkLoad1 g5)) p6 
(oSet (xLook (lkBin .add g4 g6)) p7 
(oSet (xMove g7) p2 
oEnd)))))) kRet))⟩
noncomputable def k374 : KFun := ⟨[rTmp (nat_lit 6) g6], (kSeq (oSet (xMove q18) p6 
oEnd) (kSeq (oSet (xMove g0) p8 
(oSet (xMove g1) p9 
(oSet (xMove g2) p10 
(oSet (xMove g0) p11 
(oSet (xLook (lkLen .sl g11)) p12 
(oSet (xLook (lkSliceSl (nat_lit 2) g8 (some g9) (some g10) (some g12))) p13 
oEnd)))))) (kSeq (kSeq (oSet (xMove g1) p14 
(oSet (xMove g2) p15 
(oSet (xLook (lkEq false .int g14 g15)) p16 
oEnd))) (kCond g16 (kSeq (oSet (xMove g0) p17 
(oSet (xMove g17) p6 
oEnd)) kRet) kSkip)) (kSeq (oSet (xMove g0) p18 
(oSet (xLook (lkLen .sl g18)) p19 
(oSet (xMove g19) p7 
oEnd))) (kSeq (kDraw 
(dLook (nat_lit 0) [] [] (lkMove g0) p20 
(dLook (nat_lit 1) [] [] (lkMove g1) p21 
(dLook (nat_lit 2) [] [] (lkSliceSl (nat_lit 2) g20 none (some g21) none) p22 
(dLook (nat_lit 3) [] [] (lkMove g0) p23 
(dLook (nat_lit 4) [] [] (lkMove g2) p24 
(dLook (nat_lit 5) [] [] (lkSliceSl (nat_lit 2) g23 (some g24) none none) p25 
(dTurn (nat_lit 6) [] [] true (xTurn (tnAppend (nat_lit 2) g22 g25)) p26 
(dLook (nat_lit 7) [] [(nat_lit 6)] (lkMove g26) p0 (dEnd [(nat_lit 20), (nat_lit 21), (nat_lit 22), (nat_lit 23), (nat_lit 24), (nat_lit 25), (nat_lit 26), (nat_lit 0)])))))))))) (kSeq (oSet (xMove g0) p27 
(oSet (xMove g0) p28 
(oSet (xLook (lkLen .sl g28)) p29 
(oSet (xMove g7) p30 
(oSet (xLook (lkSliceSl (nat_lit 2) g27 (some g29) (some g30) none)) p31 
(oDo (xTurn (tnClear q66 g31)) 
oEnd)))))) (kSeq (oSet (xMove g0) p32 
(oSet (xMove g32) p6 
oEnd)) kRet)))))))⟩
noncomputable def k375 : KFun := ⟨[rTmp (nat_lit 2) g2], (kSeq (oSet (xMove q18) p2 
oEnd) (kSeq (kSeq (oSet (xMove g0) p3 
(oSet (xLook (lkEq false .slice g3 q18)) p4 
oEnd)) (kCond g4 (kSeq (oSet (xMove q18) p2 
oEnd) kRet) kSkip)) (kSeq (oSet (xTurn (tnBuildSlice [] [] (nat_lit 0))) p5 
(oSet (xMove g0) p6 
(oSet (xTurn (tnAppend (nat_lit 2) g5 g6)) p7 
(oSet (xMove g7) p2 
oEnd)))) kRet)))⟩
def q628 : OpdF := kC (.func (.func (nat_lit 425)) ⟨[]⟩ ⟨[]⟩)
def q629 : OpdF := kC (.func (.func (nat_lit 426)) ⟨[]⟩ ⟨[]⟩)
noncomputable def k376 : KFun := ⟨[rTmp (nat_lit 6) g6], (kSeq (oSet (xMove q18) p6 
oEnd) (kSeq (oSet (xMove g0) p10 
(oSet (xMove g1) p11 
(oSet (xLook (lkSliceSl (nat_lit 2) g10 (some g11) none none)) p12 
oEnd))) (kSeq (oSet (xMove g2) p13 
(oSet (xLook (lkLen .sl g13)) p14 
(oSet (xMove g14) p7 
oEnd))) (kSeq (kSeq (oSet (xMove g7) p15 
(oSet (xLook (lkEq false .int g15 q6)) p16 
oEnd)) (kCond g16 (kSeq (oSet (xMove g0) p17 
(oSet (xMove g17) p6 
oEnd)) kRet) kSkip)) (kSeq (oSet (xMove g0) p18 
(oSet (xLook (lkLen .sl g18)) p19 
(oSet (xMove g19) p8 
oEnd))) (kSeq (kSeq (oSet (xMove g1) p20 
(oSet (xMove g8) p21 
(oSet (xLook (lkEq false .int g20 g21)) p22 
oEnd))) (kCond g22 (kSeq (oSet (xMove g0) p23 
(oSet (xMove g2) p24 
(oSet (xTurn (tnAppend (nat_lit 2) g23 g24)) p25 
(oSet (xMove g25) p6 
oEnd)))) kRet) kSkip)) (kSeq (kSeq (oSet (xMove g8) p26 
(oSet (xMove g7) p27 
(oSet (xLook (lkBin .add g26 g27)) p28 
(oSet (xMove g0) p29 
(oSet (xLook (lkCap g29)) p30 
(oSet (xLook (lkBin .gtr g28 g30)) p31 
oEnd)))))) (kCond g31 (kSeq (oSet (xMove g0) p32 
(oSet (xMove g1) p33 
(oSet (xLook (lkSliceSl (nat_lit 2) g32 none (some g33) none)) p34 
(oSet (xMove g8) p35 
(oSet (xMove g7) p36 
(oSet (xLook (lkBin .add g35 g36)) p37 
(oSet (xMove g1) p38 
(oSet (xLook (lkBin .sub g37 g38)) p39 
(oSet (xTurn (tnAppendZ q66 g34 g39)) p40 
(oSet (xMove g40) p9 
oEnd)))))))))) (kSeq (oSet (xMove g9) p41 
(oSet (xMove g1) p42 
(oSet (xLook (lkSliceSl (nat_lit 2) g41 (some g42) none none)) p43 
(oSet (xMove g2) p44 
(oSet (xTurn (tnCopy (nat_lit 2) g43 g44)) p45 
oEnd))))) (kSeq (kDraw 
(dLook (nat_lit 0) [] [] (lkMove g9) p46 
(dLook (nat_lit 1) [] [] (lkMove g1) p47 
(dLook (nat_lit 2) [] [] (lkMove g7) p48 
(dLook (nat_lit 3) [] [] (lkBin .add g47 g48) p49 
(dLook (nat_lit 4) [] [] (lkSliceSl (nat_lit 2) g46 (some g49) none none) p50 
(dLook (nat_lit 5) [] [] (lkMove g0) p51 
(dLook (nat_lit 6) [] [] (lkMove g1) p52 
(dLook (nat_lit 7) [] [] (lkSliceSl (nat_lit 2) g51 (some g52) none none) p53 
(dTurn (nat_lit 8) [] [] true (xTurn (tnCopy (nat_lit 2) g50 g53)) p54 (dEnd [(nat_lit 46), (nat_lit 47), (nat_lit 48), (nat_lit 49), (nat_lit 50), (nat_lit 51), (nat_lit 52), (nat_lit 53), (nat_lit 54)]))))))))))) (kSeq (oSet (xMove g9) p55 
(oSet (xMove g55) p6 
oEnd)) kRet)))) kSkip)) (kSeq (oSet (xMove g0) p56 
(oSet (xMove g8) p57 
(oSet (xMove g7) p58 
(oSet (xLook (lkBin .add g57 g58)) p59 
(oSet (xLook (lkSliceSl (nat_lit 2) g56 none (some g59) none)) p60 
(oSet (xMove g60) p0 
oEnd)))))) (kSeq (kSeq (oSet (xMove g2) p61 
(oSet (xMove g0) p62 
(oSet (xMove g1) p63 
(oSet (xMove g7) p64 
(oSet (xLook (lkBin .add g63 g64)) p65 
(oSet (xLook (lkSliceSl (nat_lit 2) g62 (some g65) none none)) p66 
(oSet (xCall q628 [g61, g66]) p67 
(oSet (xLook (lkUn .not g67)) p68 
oEnd)))))))) (kCond g68 (kSeq (kDraw 
(dLook (nat_lit 0) [] [] (lkMove g0) p69 
(dLook (nat_lit 1) [] [] (lkMove g1) p70 
(dLook (nat_lit 2) [] [] (lkMove g7) p71 
(dLook (nat_lit 3) [] [] (lkBin .add g70 g71) p72 
(dLook (nat_lit 4) [] [] (lkSliceSl (nat_lit 2) g69 (some g72) none none) p73 
(dLook (nat_lit 5) [] [] (lkMove g0) p74 
(dLook (nat_lit 6) [] [] (lkMove g1) p75 
(dLook (nat_lit 7) [] [] (lkSliceSl (nat_lit 2) g74 (some g75) none none) p76 
(dTurn (nat_lit 8) [] [] true (xTurn (tnCopy (nat_lit 2) g73 g76)) p77 (dEnd [(nat_lit 69), (nat_lit 70), (nat_lit 71), (nat_lit 72), (nat_lit 73), (nat_lit 74), (nat_lit 75), (nat_lit 76), (nat_lit 77)]))))))))))) (kSeq (oSet (xMove g0) p78 
(oSet (xMove g1) p79 
(oSet (xLook (lkSliceSl (nat_lit 2) g78 (some g79) none none)) p80 
(oSet (xMove g2) p81 
(oSet (xTurn (tnCopy (nat_lit 2) g80 g81)) p82 
oEnd))))) (kSeq (oSet (xMove g0) p83 
(oSet (xMove g83) p6 
oEnd)) kRet))) kSkip)) (kSeq (oSet (xMove g0) p84 
(oSet (xMove g8) p85 
(oSet (xLook (lkSliceSl (nat_lit 2) g84 (some g85) none none)) p86 
(oSet (xMove g2) p87 
(oSet (xTurn (tnCopy (nat_lit 2) g86 g87)) p88 
oEnd))))) (kSeq (oSet (xMove g0) p89 
(oSet (xMove g1) p90 
(oSet (xLook (lkSliceSl (nat_lit 2) g89 (some g90) none none)) p91 
(oSet (xMove g7) p92 
(oSet (xCall q629 [g91, g92]) p93 
oEnd))))) (kSeq (oSet (xMove g0) p94 
(oSet (xMove g94) p6 
oEnd)) kRet))))))))))))⟩
noncomputable def k377 : KFun := ⟨[rTmp (nat_lit 6) g6], (kSeq (oSet (xMove q0) p6 
oEnd) (kSeq (oSet (xMove g0) p7 
(oSet (xCall q361 [g7]) p8 
(oSet (xLook (lkEq true .int g8 q6)) p9 
(oSet (xMove g9) p10 
(oSetIf (wantF g10) (xMove g2) p11 
(oSetIf (wantF g10) (xLook (lkBin .lss g11 q16)) p12 
(oSet (xLook (lkPick g10 q2 g12)) p13 
(oSet (xMove g13) p14 
(oSetIf (wantF g14) (xMove g1) p15 
(oSetIf (wantF g14) (xLook (lkBin .lss g15 q6)) p16 
(oSet (xLook (lkPick g14 q2 g16)) p17 
(oSet (xMove g17) p18 
(oSetIf (wantF g18) (xMove g1) p19 
(oSetIf (wantF g18) (xLook (lkBin .geq g19 q128)) p20 
(oSet (xLook (lkPick g18 q2 g20)) p21 
(oSet (xMove g21) p22 
(oSetIf (wantF g22) (xMove g2) p23 
(oSetIf (wantF g22) (xMove g1) p24 
(oSetIf (wantF g22) (xLook (lkBin .sub q128 g24)) p25 
(oSetIf (wantF g22) (xLook (lkBin .gtr g23 g25)) p26 
(oSet (xLook (lkPick g22 q2 g26)) p27 
(oSet (xMove g27) p6 
oEnd)))))))))))))))))))))) kRet))⟩
def q630 : OpdF := kC (.func (.func (nat_lit 427)) ⟨[]⟩ ⟨[]⟩)
def q631 : OpdF := kC (.func (.func (nat_lit 428)) ⟨[]⟩ ⟨[]⟩)
noncomputable def k378 : KFun := ⟨[rTmp (nat_lit 4) g4], (kSeq (oSet (xMove q6) p4 
oEnd) (kSeq (oSet (xMove g0) p8 
(oSet (xMove g1) p9 
(oSet (xCall q630 [g8, g9, q631]) p10 
(oSet (xMove g10) p7 
(oSet (xLook (lkExtract (nat_lit 0) g7)) p11 
(oSet (xLook (lkExtract (nat_lit 1) g7)) p12 
(oSet (xMove g11) p5 
(oSet (xMove g12) p6 
oEnd)))))))) (kSeq (oSet (xMove g5) p13 
(oSet (xMove g13) p4 
oEnd)) kRet)))⟩
def q636 : List Value := [(.slice none (nat_lit 0) (nat_lit 0)), (.int .i64 (.ofNat (nat_lit 0))), (.int .u8 (.ofNat (nat_lit 0))), (.int .u8 (.ofNat (nat_lit 0))), (.int .u8 (.ofNat (nat_lit 0))), (.int .u8 (.ofNat (nat_lit 0))), (.int .u8 (.ofNat (nat_lit 0))), (.int .u8 (.ofNat (nat_lit 0))), (.int .u8 (.ofNat (nat_lit 0))), (.int .u8 (.ofNat (nat_lit 0))), (.int .u8 (.ofNat (nat_lit 0))), (.int .u8 (.ofNat (nat_lit 0))), (.int .u8 (.ofNat (nat_lit 0))), (.int .u8 (.ofNat (nat_lit 0))), (.int .u8 (.ofNat (nat_lit 0))), (.int .u8 (.ofNat (nat_lit 0))), (.int .u8 (.ofNat (nat_lit 0))), (.int .u8 (.ofNat (nat_lit 0))), (.int .u8 (.ofNat (nat_lit 0))), (.int .u8 (.ofNat (nat_lit 0))), (.int .u8 (.ofNat (nat_lit 0))), (.int .u8 (.ofNat (nat_lit 0))), (.int .u8 (.ofNat (nat_lit 0))), (.int .u8 (.ofNat (nat_lit 0))), (.int .u8 (.ofNat (nat_lit 0))), (.int .u8 (.ofNat (nat_lit 0))), (.int .u8 (.ofNat (nat_lit 0))), (.int .u8 (.ofNat (nat_lit 0))), (.int .u8 (.ofNat (nat_lit 0))), (.int .u8 (.ofNat (nat_lit 0))), (.int .u8 (.ofNat (nat_lit 0))), (.int .u8 (.ofNat (nat_lit 0))), (.int .u8 (.ofNat (nat_lit 0))), (.int .u8 (.ofNat (nat_lit 0))), (.int .i64 (.ofNat (nat_lit 0))), (.int .i64 (.ofNat (nat_lit 0)))]
def q637 : OpdF := kC (.func (.func (nat_lit 430)) ⟨[]⟩ ⟨[]⟩)
noncomputable def k387 : KFun := ⟨[rCellN (nat_lit 2) g2 (nat_lit 35), rTmp (nat_lit 3) g3], (kSeq (oSet (xTurn (tnAlloc q138)) p2 
(oSet (xMove q0) p3 
oEnd)) (kSeq (kSeq (oSet (xMove g0) p6 
(oSet (xLook (lkLen .sl g6)) p7 
(oSet (xLook (lkEq true .int g7 q254)) p8 
(oSet (xMove g8) p9 
(oSetIf (wantF g9) (xMove g0) p10 
(oSetIf (wantF g9) (xLook (lkIxSl (nat_lit 1) g10 q6)) p11 
(oSetIf (wantF g9) (xLook (lkLoad1 g11)) p12 
(oSetIf (wantF g9) (xLook (lkEq true .int g12 q508)) p13 
(oSet (xLook (lkPick g9 q2 g13)) p14 
(oSet (xMove g14) p15 
(oSetIf (wantF g15) (xMove g0) p16 
(oSetIf (wantF g15) (xLook (lkIxSl (nat_lit 1) g16 q16)) p17 
(oSetIf (wantF g15) (xLook (lkLoad1 g17)) p18 
(oSetIf (wantF g15) (xLook (lkEq true .int g18 q509)) p19 
(oSet (xLook (lkPick g15 q2 g19)) p20 
oEnd))))))))))))))) (kCond g20 (kSeq (oSet (xLook (lkBuild q138 [])) p21 
(oDo (xTurn (tnStore (nat_lit 35) g2 g21)) 
(oSet (xMove q0) p3 
oEnd))) kRet) kSkip)) (kSeq (oSet (xMove g0) p22 
(oSet (xLook (lkSliceSl (nat_lit 1) g22 none (some q454) none)) p23 
(oSet (xCall q129 [g23]) p24 
(oSet (xTurn (tnAlloc q91)) p4 
(oDo (xTurn (tnStore (nat_lit 32) g4 g24)) 
oEnd))))) (kSeq (kSeq (kDraw 
(dLook (nat_lit 0) [] [] (lkSliceArr (nat_lit 32) (nat_lit 1) g4 none (some q510) none) p25 
(dLook (nat_lit 1) [] [] (lkMove g0) p26 
(dLook (nat_lit 2) [] [] (lkSliceSl (nat_lit 1) g26 (some q454) none none) p27 
(dTurn (nat_lit 3) [] [] true (xCall q381 [g25, g27]) p28 
(dLook (nat_lit 4) [] [(nat_lit 3)] (lkUn .not g28) p29 (dEnd [(nat_lit 25), (nat_lit 26), (nat_lit 27), (nat_lit 28), (nat_lit 29)]))))))) (kCond g29 (kSeq (oSet (xLook (lkBuild q138 [])) p30 
(oDo (xTurn (tnStore (nat_lit 35) g2 g30)) 
(oSet (xMove q0) p3 
oEnd))) kRet) kSkip)) (kSeq (oSet (xMove g0) p31 
(oSet (xLook (lkSliceSl (nat_lit 1) g31 (some q35) none none)) p32 
(oSet (xLook (lkBuild q28 [((nat_lit 0), (nat_lit 1), g32)])) p33 
(oSet (xLook (lkBuild q636 [((nat_lit 0), (nat_lit 1), g33)])) p34 
(oSet (xTurn (tnBox g34)) p35 
(oSet (xMove g35) p5 
oEnd)))))) (kSeq (kSeq (oSet (xMove g5) p36 
(oSet (xNil g36) p37 
(oSet (xLook (lkFieldAddr (nat_lit 0) g37)) p38 
(oSet (xLook (lkFieldAddr (nat_lit 0) g38)) p39 
(oSet (xLook (lkLoad1 g39)) p40 
(oSet (xLook (lkIxSl (nat_lit 1) g40 q6)) p41 
(oSet (xLook (lkLoad1 g41)) p42 
(oSet (xLook (lkEq true .int g42 q393)) p43 
oEnd)))))))) (kCond g43 (kSeq (oSet (xLook (lkBuild q138 [])) p44 
(oDo (xTurn (tnStore (nat_lit 35) g2 g44)) 
(oSet (xMove q0) p3 
oEnd))) kRet) kSkip)) (kSeq (oSet (xMove g5) p45 
(oSet (xMove g5) p46 
(oSet (xNil g46) p47 
(oSet (xLook (lkFieldAddr (nat_lit 0) g47)) p48 
(oSet (xCall q637 [g48, q38]) p49 
(oSet (xNil g45) p50 
(oSet (xLook (lkFieldAddr (nat_lit 1) g50)) p51 
(oSet (xLook (lkFieldAddr (nat_lit 0) g51)) p52 
(oDo (xTurn (tnStore (nat_lit 1) g52 g49)) 
oEnd))))))))) (kSeq (kDraw 
(dLook (nat_lit 0) [] [] (lkMove g5) p53 
(dTurn (nat_lit 1) [] [] false (xNil g53) p54 
(dLook (nat_lit 2) [] [] (lkFieldAddr (nat_lit 1) g54) p55 
(dLook (nat_lit 3) [] [] (lkFieldAddr (nat_lit 1) g55) p56 
(dLook (nat_lit 4) [] [] (lkSliceArr (nat_lit 32) (nat_lit 1) g56 none none none) p57 
(dLook (nat_lit 5) [] [] (lkMove g5) p58 
(dTurn (nat_lit 6) [] [] false (xNil g58) p59 
(dLook (nat_lit 7) [] [] (lkFieldAddr (nat_lit 0) g59) p60 
(dLook (nat_lit 8) [] [] (lkFieldAddr (nat_lit 0) g60) p61 
(dLook (nat_lit 9) [] [] (lkLoad1 g61) p62 
(dTurn (nat_lit 10) [] [] true (xTurn (tnCopy (nat_lit 1) g57 g62)) p63 (dEnd [(nat_lit 53), (nat_lit 54), (nat_lit 55), (nat_lit 56), (nat_lit 57), (nat_lit 58), (nat_lit 59), (nat_lit 60), (nat_lit 61), (nat_lit 62), (nat_lit 63)]))))))))))))) (kSeq (oSet (xMove g5) p64 
(oSet (xMove g5) p65 
(oSet (xNil g65) p66 
(oSet (xLook (lkFieldAddr (nat_lit 0) g66)) p67 
(oSet (xLook (lkFieldAddr (nat_lit 0) g67)) p68 
(oSet (xLook (lkLoad1 g68)) p69 
(oSet (xLook (lkSliceSl (nat_lit 1) g69 (some q289) none none)) p70 
(oSet (xNil g64) p71 
(oSet (xLook (lkFieldAddr (nat_lit 0) g71)) p72 
(oSet (xLook (lkFieldAddr (nat_lit 0) g72)) p73 
(oDo (xTurn (tnStore (nat_lit 1) g73 g70)) 
oEnd))))))))))) (kSeq (kDraw 
(dLook (nat_lit 0) [] [] (lkMove g5) p74 
(dLook (nat_lit 1) [] [] (lkMove g5) p75 
(dLook (nat_lit 2) [] [] (lkMove g5) p76 
(dTurn (nat_lit 3) [] [] false (xNil g76) p77 
(dLook (nat_lit 4) [] [] (lkFieldAddr (nat_lit 0) g77) p78 
(dTurn (nat_lit 5) [] [] true (xCall q637 [g78, q149]) p79 
(dLook (nat_lit 6) [] [] (lkMove g5) p80 
(dTurn (nat_lit 7) [] [] false (xNil g80) p81 
(dLook (nat_lit 8) [] [] (lkFieldAddr (nat_lit 0) g81) p82 
(dTurn (nat_lit 9) [] [(nat_lit 5)] true (xCall q637 [g82, q149]) p83 
(dTurn (nat_lit 10) [] [(nat_lit 5), (nat_lit 9)] false (xNil g74) p84 
(dLook (nat_lit 11) [] [(nat_lit 5), (nat_lit 9)] (lkFieldAddr (nat_lit 1) g84) p85 
(dLook (nat_lit 12) [] [(nat_lit 5), (nat_lit 9)] (lkFieldAddr (nat_lit 33) g85) p86 
(dTurn (nat_lit 13) [] [(nat_lit 5), (nat_lit 9)] true (xTurn (tnStore (nat_lit 1) g86 g79)) noDst 
(dTurn (nat_lit 14) [] [(nat_lit 5), (nat_lit 9), (nat_lit 13)] false (xNil g75) p87 
(dLook (nat_lit 15) [] [(nat_lit 5), (nat_lit 9), (nat_lit 13)] (lkFieldAddr (nat_lit 1) g87) p88 
(dLook (nat_lit 16) [] [(nat_lit 5), (nat_lit 9), (nat_lit 13)] (lkFieldAddr (nat_lit 34) g88) p89 
(dTurn (nat_lit 17) [] [(nat_lit 5), (nat_lit 9), (nat_lit 13)] true (xTurn (tnStore (nat_lit 1) g89 g83)) noDst (dEnd [(nat_lit 74), (nat_lit 75), (nat_lit 76), (nat_lit 77), (nat_lit 78), (nat_lit 79), (nat_lit 80), (nat_lit 81), (nat_lit 82), (nat_lit 83), (nat_lit 84), (nat_lit 85), (nat_lit 86), (nat_lit 87), (nat_lit 88), (nat_lit 89)])))))))))))))))))))) (kSeq (kSeq (oSet (xMove g5) p90 
(oSet (xNil g90) p91 
(oSet (xLook (lkFieldAddr (nat_lit 1) g91)) p92 
(oSet (xLook (lkLoadN (nat_lit 35) g92)) p93 
(oSet (xCall q504 [g93]) p94 
(oSet (xLook (lkEq true .int g94 q6)) p95 
oEnd)))))) (kCond g95 (kSeq (oSet (xLook (lkBuild q138 [])) p96 
(oDo (xTurn (tnStore (nat_lit 35) g2 g96)) 
(oSet (xMove q0) p3 
oEnd))) kRet) kSkip)) (kSeq (oSet (xMove g5) p97 
(oSet (xNil g97) p98 
(oSet (xLook (lkFieldAddr (nat_lit 1) g98)) p99 
(oSet (xLook (lkLoadN (nat_lit 35) g99)) p100 
(oDo (xTurn (tnStore (nat_lit 35) g2 g100)) 
(oSet (xMove q2) p3 
oEnd)))))) kRet))))))))))))⟩
noncomputable def k392 : KFun := ⟨[rTmp (nat_lit 4) g4], (kSeq (oSet (xMove q111) p4 
oEnd) (kSeq (kSeq (oSet (xMove g0) p5 
(oSet (xMove g1) p6 
(oSet (xNil g5) p7 
(oSet (xLook (lkFieldAddr (nat_lit 0) g7)) p8 
(oSet (xLook (lkFieldAddr (nat_lit 0) g8)) p9 
(oSet (xLook (lkIxArr (nat_lit 8) (nat_lit 1) g9 g6)) p10 
(oSet (xLook (lkLoad1 g10)) p11 
(oSet (xCall q166 [g11]) p12 
(oSet (xLook (lkUn .not g12)) p13 
oEnd))))))))) (kCond g13 (oSet (xLook (lkBuild q55 [((nat_lit 0), (nat_lit 1), q83)])) p14 
(oSet (xLook (lkMkIface (nat_lit 358) g14)) p15 
(oDo (xPanic g15) 
oEnd))) kSkip)) (kSeq (oSet (xMove g0) p16 
(oSet (xMove g1) p17 
(oSet (xNil g16) p18 
(oSet (xLook (lkFieldAddr (nat_lit 0) g18)) p19 
(oSet (xLook (lkFieldAddr (nat_lit 0) g19)) p20 
(oSet (xLook (lkIxArr (nat_lit 8) (nat_lit 1) g20 g17)) p21 
(oSet (xLook (lkLoad1 g21)) p22 
(oSet (xMove g22) p4 
oEnd)))))))) kRet)))⟩
noncomputable def k394 : KFun := ⟨[], (kSeq (oSet (xTurn (tnBox g1)) p3 
oEnd) (kDraw 
(dLook (nat_lit 0) [] [] (lkMove g0) p4 
(dTurn (nat_lit 1) [] [] false (xNil g4) p5 
(dLook (nat_lit 2) [] [] (lkFieldAddr (nat_lit 0) g5) p6 
(dLook (nat_lit 3) [] [] (lkLoad1 g6) p7 
(dLook (nat_lit 4) [] [] (lkFieldAddr (nat_lit 0) g3) p8 
(dLook (nat_lit 5) [] [] (lkLoad1 g8) p9 
(dLook (nat_lit 6) [] [] (lkLoadN (nat_lit 3) g3) p10 
(dTurn (nat_lit 7) [] [] true (xTurn (tnMapUpdate (.one .str) g7 g9 g10)) noDst (dEnd [(nat_lit 4), (nat_lit 5), (nat_lit 6), (nat_lit 7), (nat_lit 8), (nat_lit 9), (nat_lit 10)])))))))))))⟩
def q645 : CCode := (.region false [⟨none, (some (nat_lit 5)), (.move (.tmp (nat_lit 7))), (nat_lit 0), [], []⟩])
def q646 : CCode := (.block (nat_lit 1) (.region false [⟨none, (some (nat_lit 8)), (.load1 (.tmp (nat_lit 2))), (nat_lit 0), [], []⟩,
⟨none, (some (nat_lit 9)), (.move (.tmp (nat_lit 5))), (nat_lit 1), [], []⟩,
⟨none, (some (nat_lit 10)), (.buildSlice [(.string ⟨⟨[]⟩⟩)] [⟨(nat_lit 0), (nat_lit 1), (.tmp (nat_lit 9))⟩] (nat_lit 1)), (nat_lit 2), [], []⟩,
⟨none, (some (nat_lit 11)), (.append (nat_lit 1) (.tmp (nat_lit 8)) (.tmp (nat_lit 10))), (nat_lit 3), [], []⟩,
⟨none, none, (.store (nat_lit 1) (.tmp (nat_lit 2)) (.tmp (nat_lit 11))), (nat_lit 4), [], []⟩]))
noncomputable def k401 : KFun := ⟨[rTmp (nat_lit 4) g4], (kSeq (oSet (xTurn (tnBox g0)) p2 
(oSet (xMove q18) p4 
oEnd)) (kSeq (kSeq (oSet (xMove g1) p6 
oEnd) (kBlock (nat_lit 0) (kRange g6 [(nat_lit 7)] q645 q646))) (kSeq (oSet (xLook (lkLoad1 g2)) p12 
(oSet (xMove g12) p4 
oEnd)) kRet)))⟩
def q647 : OpdF := kC (.func (.func (nat_lit 438)) ⟨[]⟩ ⟨[]⟩)
def q648 : OpdF := kC (.func (.func (nat_lit 439)) ⟨[]⟩ ⟨[]⟩)
def q649 : OpdF := kC (.func (.func (nat_lit 440)) ⟨[]⟩ ⟨[]⟩)
def q650 : OpdF := kC (.func (.func (nat_lit 441)) ⟨[]⟩ ⟨[]⟩)
def q651 : OpdF := kC (.func (.func (nat_lit 442)) ⟨[]⟩ ⟨[]⟩)
def q652 : OpdF := kC (.func (.func (nat_lit 443)) ⟨[]⟩ ⟨[]⟩)
noncomputable def k402d0 : KD := 
(dLook (nat_lit 14) [] [(nat_lit 12)] (lkPick g75 g86 q0) p87 (dEnd [(nat_lit 73), (nat_lit 74), (nat_lit 75), (nat_lit 76), (nat_lit 77), (nat_lit 78), (nat_lit 79), (nat_lit 80), (nat_lit 81), (nat_lit 82), (nat_lit 83), (nat_lit 84), (nat_lit 85), (nat_lit 86), (nat_lit 87)]))
def q653 : OpdF := kC (.func (.func (nat_lit 444)) ⟨[]⟩ ⟨[]⟩)
noncomputable def k402d1 : KD := 
(dIf [(nat_lit 12)] (wantT g75) p86 (dLook (nat_lit 13) [] [(nat_lit 12)] (lkUn .not g85) p86 k402d0) k402d0)
noncomputable def k402d2 : KD := 
(dIf [] (wantT g75) p85 (dTurn (nat_lit 12) [] [] true (xCall q653 [g80, g84]) p85 k402d1) k402d1)
noncomputable def k402d3 : KD := 
(dIf [] (wantT g75) p84 (dLook (nat_lit 11) [] [] (lkLoad1 g83) p84 k402d2) k402d2)
noncomputable def k402d4 : KD := 
(dIf [] (wantT g75) p83 (dLook (nat_lit 10) [] [] (lkIxSl (nat_lit 1) g81 g82) p83 k402d3) k402d3)
noncomputable def k402d5 : KD := 
(dIf [] (wantT g75) p82 (dLook (nat_lit 9) [] [] (lkMove g11) p82 k402d4) k402d4)
noncomputable def k402d6 : KD := 
(dIf [] (wantT g75) p81 (dLook (nat_lit 8) [] [] (lkMove g0) p81 k402d5) k402d5)
noncomputable def k402d7 : KD := 
(dIf [] (wantT g75) p80 (dLook (nat_lit 7) [] [] (lkLoad1 g79) p80 k402d6) k402d6)
noncomputable def k402d8 : KD := 
(dIf [] (wantT g75) p79 (dLook (nat_lit 6) [] [] (lkIxSl (nat_lit 1) g76 g78) p79 k402d7) k402d7)
noncomputable def k402d9 : KD := 
(dIf [] (wantT g75) p78 (dLook (nat_lit 5) [] [] (lkBin .sub g77 q16) p78 k402d8) k402d8)
noncomputable def k402d10 : KD := 
(dIf [] (wantT g75) p77 (dLook (nat_lit 4) [] [] (lkMove g1) p77 k402d9) k402d9)
def q654 : OpdF := kC (.func (.func (nat_lit 445)) ⟨[]⟩ ⟨[]⟩)
def q655 : OpdF := kC (.func (.func (nat_lit 446)) ⟨[]⟩ ⟨[]⟩)
noncomputable def k402 : KFun := ⟨[], (kSeq (oSet (xMove q2) p8 
oEnd) (kSeq (oSet (xMove q2) p9 
oEnd) (kBlock (nat_lit 0) (kLoop (kBlock (nat_lit 1) (kSeq (oSet (xMove g2) p19 
(oSet (xMove g1) p20 
(oSet (xLook (lkBin .sub g19 g20)) p21 
(oSet (xMove g21) p10 
oEnd)))) (kSeq (kSeq (oSet (xMove g10) p22 
(oSet (xLook (lkBin .leq g22 q326)) p23 
oEnd)) (kCond g23 (kSeq (oSet (xMove g0) p24 
(oSet (xMove g1) p25 
(oSet (xMove g2) p26 
(oSet (xCall q647 [g24, g25, g26]) p27 
oEnd)))) kRet) kSkip)) (kSeq (kSeq (oSet (xMove g3) p28 
(oSet (xLook (lkEq false .int g28 q6)) p29 
oEnd)) (kCond g29 (kSeq (oSet (xMove g0) p30 
(oSet (xMove g1) p31 
(oSet (xMove g2) p32 
(oSet (xCall q648 [g30, g31, g32]) p33 
oEnd)))) kRet) kSkip)) (kSeq (kSeq (oSet (xMove g8) p34 
(oSet (xLook (lkUn .not g34)) p35 
oEnd)) (kCond g35 (kSeq (oSet (xMove g0) p36 
(oSet (xMove g1) p37 
(oSet (xMove g2) p38 
(oSet (xCall q649 [g36, g37, g38]) p39 
oEnd)))) (oSet (xMove g3) p40 
(oSet (xLook (lkBin .sub g40 q16)) p41 
(oSet (xMove g41) p3 
oEnd)))) kSkip)) (kSeq (oSet (xMove g0) p43 
(oSet (xMove g1) p44 
(oSet (xMove g2) p45 
(oSet (xCall q650 [g43, g44, g45]) p46 
(oSet (xMove g46) p42 
(oSet (xLook (lkExtract (nat_lit 0) g42)) p47 
(oSet (xLook (lkExtract (nat_lit 1) g42)) p48 
(oSet (xMove g47) p11 
(oSet (xMove g48) p12 
oEnd))))))))) (kSeq (kSeq (oSet (xMove g12) p49 
(oSet (xLook (lkEq false .int g49 q35)) p50 
oEnd)) (kCond g50 (kSeq (oSet (xMove g0) p51 
(oSet (xMove g1) p52 
(oSet (xMove g2) p53 
(oSet (xCall q651 [g51, g52, g53]) p54 
oEnd)))) (kSeq (oSet (xMove g2) p55 
(oSet (xLook (lkBin .sub g55 q16)) p56 
(oSet (xMove g11) p57 
(oSet (xMove g1) p58 
(oSet (xLook (lkBin .sub g57 g58)) p59 
(oSet (xLook (lkBin .sub g56 g59)) p60 
(oSet (xMove g60) p11 
oEnd))))))) (oSet (xMove q16) p12 
oEnd))) kSkip)) (kSeq (kSeq (oSet (xMove g8) p61 
(oSet (xMove g61) p62 
(oSetIf (wantT g62) (xMove g9) p63 
(oSet (xLook (lkPick g62 g63 q0)) p64 
(oSet (xMove g64) p65 
(oSetIf (wantT g65) (xMove g12) p66 
(oSetIf (wantT g65) (xLook (lkEq false .int g66 q16)) p67 
(oSet (xLook (lkPick g65 g67 q0)) p68 
oEnd)))))))) (kCond g68 (kSeq (oSet (xMove g0) p69 
(oSet (xMove g1) p70 
(oSet (xMove g2) p71 
(oSet (xCall q652 [g69, g70, g71]) p72 
oEnd)))) (kCond g72 kRet kSkip)) kSkip)) (kSeq (kSeq (kDraw 
(dLook (nat_lit 0) [] [] (lkMove g1) p73 
(dLook (nat_lit 1) [] [] (lkBin .gtr g73 q6) p74 
(dLook (nat_lit 2) [] [] (lkMove g74) p75 
(dIf [] (wantT g75) p76 (dLook (nat_lit 3) [] [] (lkMove g0) p76 k402d10) k402d10))))) (kCond g87 (kSeq (oSet (xMove g0) p88 
(oSet (xMove g1) p89 
(oSet (xMove g2) p90 
(oSet (xMove g11) p91 
(oSet (xCall q654 [g88, g89, g90, g91]) p92 
(oSet (xMove g92) p13 
oEnd)))))) (kSeq (oSet (xMove g13) p93 
(oSet (xMove g93) p1 
oEnd)) (kExit (nat_lit 1)))) kSkip)) (kSeq (oSet (xMove g0) p95 
(oSet (xMove g1) p96 
(oSet (xMove g2) p97 
(oSet (xMove g11) p98 
(oSet (xCall q655 [g95, g96, g97, g98]) p99 
(oSet (xMove g99) p94 
(oSet (xLook (lkExtract (nat_lit 0) g94)) p100 
(oSet (xLook (lkExtract (nat_lit 1) g94)) p101 
(oSet (xMove g100) p14 
(oSet (xMove g101) p15 
oEnd)))))))))) (kSeq (oSet (xMove g15) p102 
(oSet (xMove g102) p9 
oEnd)) (kSeq (oSet (xMove g14) p103 
(oSet (xMove g1) p104 
(oSet (xLook (lkBin .sub g103 g104)) p105 
(oSet (xMove g2) p106 
(oSet (xMove g14) p107 
(oSet (xLook (lkBin .sub g106 g107)) p108 
(oSet (xMove g105) p16 
(oSet (xMove g108) p17 
oEnd)))))))) (kSeq (oSet (xMove g10) p109 
(oSet (xLook (lkBin .quo g109 q38)) p110 
(oSet (xMove g110) p18 
oEnd))) (kSeq (oSet (xMove g16) p111 
(oSet (xMove g17) p112 
(oSet (xLook (lkBin .lss g111 g112)) p113 
oEnd))) (kCond g113 (kSeq (oSet (xMove g16) p114 
(oSet (xMove g18) p115 
(oSet (xLook (lkBin .geq g114 g115)) p116 
(oSet (xMove g116) p8 
oEnd)))) (kSeq (oSet (xMove g0) p117 
(oSet (xMove g1) p118 
(oSet (xMove g14) p119 
(oSet (xMove g3) p120 
(oSet (xCall q526 [g117, g118, g119, g120]) p121 
oEnd))))) (oSet (xMove g14) p122 
(oSet (xLook (lkBin .add g122 q16)) p123 
(oSet (xMove g123) p1 
oEnd))))) (kSeq (oSet (xMove g17) p124 
(oSet (xMove g18) p125 
(oSet (xLook (lkBin .geq g124 g125)) p126 
(oSet (xMove g126) p8 
oEnd)))) (kSeq (oSet (xMove g0) p127 
(oSet (xMove g14) p128 
(oSet (xLook (lkBin .add g128 q16)) p129 
(oSet (xMove g2) p130 
(oSet (xMove g3) p131 
(oSet (xCall q526 [g127, g129, g130, g131]) p132 
oEnd)))))) (oSet (xMove g14) p133 
(oSet (xMove g133) p2 
oEnd)))))))))))))))))))))))⟩
noncomputable def k403 : KFun := ⟨[rTmp (nat_lit 4) g4], (kSeq (oSet (xMove q6) p4 
oEnd) (kSeq (kSeq (oSet (xMove g0) p6 
(oSet (xLook (lkLen .sl g6)) p7 
(oSet (xMove q6) p8 
oEnd))) (kBlock (nat_lit 0) (kLoop (kSeq (oSet (xLook (lkBin .lss g8 g7)) p9 
oEnd) (kSeq (kCond g9 kSkip (kExit (nat_lit 0))) (kSeq (kBlock (nat_lit 1) (kSeq (oSet (xMove g8) p10 
(oSet (xMove g10) p5 
oEnd)) (kSeq (oSet (xMove g1) p11 
(oSet (xMove g0) p12 
(oSet (xMove g5) p13 
(oSet (xLook (lkIxSl (nat_lit 2) g12 g13)) p14 
(oSet (xLook (lkLoadN (nat_lit 2) g14)) p15 
(oSet (xCall g11 [g15]) p16 
oEnd)))))) (kCond g16 (kSeq (oSet (xMove g5) p17 
(oSet (xMove g17) p4 
oEnd)) kRet) kSkip)))) (oSet (xLook (lkBin .add g8 q16)) p18 
(oSet (xMove g18) p8 
oEnd)))))))) (kSeq (oSet (xMove q269) p4 
oEnd) kRet)))⟩
def q656 : OpdF := kC (.func (.func (nat_lit 447)) ⟨[]⟩ ⟨[]⟩)
def q657 : OpdF := kC (.func (.func (nat_lit 448)) ⟨[]⟩ ⟨[]⟩)
def q658 : OpdF := kC (.func (.func (nat_lit 449)) ⟨[]⟩ ⟨[]⟩)
def q659 : OpdF := kC (.func (.func (nat_lit 450)) ⟨[]⟩ ⟨[]⟩)
def q660 : OpdF := kC (.func (.func (nat_lit 451)) ⟨[]⟩ ⟨[]⟩)
def q661 : OpdF := kC (.func (.func (nat_lit 452)) ⟨[]⟩ ⟨[]⟩)
noncomputable def k404d0 : KD := 
(dLook (nat_lit 16) [] [(nat_lit 13)] (lkPick g83 g96 q0) p97 (dEnd [(nat_lit 81), (nat_lit 82), (nat_lit 83), (nat_lit 84), (nat_lit 85), (nat_lit 86), (nat_lit 87), (nat_lit 88), (nat_lit 89), (nat_lit 90), (nat_lit 91), (nat_lit 92), (nat_lit 93), (nat_lit 94), (nat_lit 95), (nat_lit 96), (nat_lit 97)]))
noncomputable def k404d1 : KD := 
(dIf [(nat_lit 13)] (wantT g83) p96 (dLook (nat_lit 15) [] [(nat_lit 13)] (lkUn .not g95) p96 k404d0) k404d0)
noncomputable def k404d2 : KD := 
(dIf [(nat_lit 13)] (wantT g83) p95 (dLook (nat_lit 14) [] [(nat_lit 13)] (lkBin .lss g94 q6) p95 k404d1) k404d1)
noncomputable def k404d3 : KD := 
(dIf [] (wantT g83) p94 (dTurn (nat_lit 13) [] [] true (xCall g84 [g89, g93]) p94 k404d2) k404d2)
noncomputable def k404d4 : KD := 
(dIf [] (wantT g83) p93 (dLook (nat_lit 12) [] [] (lkLoadN (nat_lit 2) g92) p93 k404d3) k404d3)
noncomputable def k404d5 : KD := 
(dIf [] (wantT g83) p92 (dLook (nat_lit 11) [] [] (lkIxSl (nat_lit 2) g90 g91) p92 k404d4) k404d4)
noncomputable def k404d6 : KD := 
(dIf [] (wantT g83) p91 (dLook (nat_lit 10) [] [] (lkMove g13) p91 k404d5) k404d5)
noncomputable def k404d7 : KD := 
(dIf [] (wantT g83) p90 (dLook (nat_lit 9) [] [] (lkMove g0) p90 k404d6) k404d6)
noncomputable def k404d8 : KD := 
(dIf [] (wantT g83) p89 (dLook (nat_lit 8) [] [] (lkLoadN (nat_lit 2) g88) p89 k404d7) k404d7)
noncomputable def k404d9 : KD := 
(dIf [] (wantT g83) p88 (dLook (nat_lit 7) [] [] (lkIxSl (nat_lit 2) g85 g87) p88 k404d8) k404d8)
noncomputable def k404d10 : KD := 
(dIf [] (wantT g83) p87 (dLook (nat_lit 6) [] [] (lkBin .sub g86 q16) p87 k404d9) k404d9)
noncomputable def k404d11 : KD := 
(dIf [] (wantT g83) p86 (dLook (nat_lit 5) [] [] (lkMove g1) p86 k404d10) k404d10)
noncomputable def k404d12 : KD := 
(dIf [] (wantT g83) p85 (dLook (nat_lit 4) [] [] (lkMove g0) p85 k404d11) k404d11)
def q662 : OpdF := kC (.func (.func (nat_lit 453)) ⟨[]⟩ ⟨[]⟩)
def q663 : OpdF := kC (.func (.func (nat_lit 454)) ⟨[]⟩ ⟨[]⟩)
noncomputable def k404 : KFun := ⟨[], (kSeq (oSet (xMove q2) p10 
oEnd) (kSeq (oSet (xMove q2) p11 
oEnd) (kBlock (nat_lit 0) (kLoop (kBlock (nat_lit 1) (kSeq (oSet (xMove g2) p21 
(oSet (xMove g1) p22 
(oSet (xLook (lkBin .sub g21 g22)) p23 
(oSet (xMove g23) p12 
oEnd)))) (kSeq (kSeq (oSet (xMove g12) p24 
(oSet (xLook (lkBin .leq g24 q326)) p25 
oEnd)) (kCond g25 (kSeq (oSet (xMove g0) p26 
(oSet (xMove g1) p27 
(oSet (xMove g2) p28 
(oSet (xMove g4) p29 
(oSet (xCall q656 [g26, g27, g28, g29]) p30 
oEnd))))) kRet) kSkip)) (kSeq (kSeq (oSet (xMove g3) p31 
(oSet (xLook (lkEq false .int g31 q6)) p32 
oEnd)) (kCond g32 (kSeq (oSet (xMove g0) p33 
(oSet (xMove g1) p34 
(oSet (xMove g2) p35 
(oSet (xMove g4) p36 
(oSet (xCall q657 [g33, g34, g35, g36]) p37 
oEnd))))) kRet) kSkip)) (kSeq (kSeq (oSet (xMove g10) p38 
(oSet (xLook (lkUn .not g38)) p39 
oEnd)) (kCond g39 (kSeq (oSet (xMove g0) p40 
(oSet (xMove g1) p41 
(oSet (xMove g2) p42 
(oSet (xMove g4) p43 
(oSet (xCall q658 [g40, g41, g42, g43]) p44 
oEnd))))) (oSet (xMove g3) p45 
(oSet (xLook (lkBin .sub g45 q16)) p46 
(oSet (xMove g46) p3 
oEnd)))) kSkip)) (kSeq (oSet (xMove g0) p48 
(oSet (xMove g1) p49 
(oSet (xMove g2) p50 
(oSet (xMove g4) p51 
(oSet (xCall q659 [g48, g49, g50, g51]) p52 
(oSet (xMove g52) p47 
(oSet (xLook (lkExtract (nat_lit 0) g47)) p53 
(oSet (xLook (lkExtract (nat_lit 1) g47)) p54 
(oSet (xMove g53) p13 
(oSet (xMove g54) p14 
oEnd)))))))))) (kSeq (kSeq (oSet (xMove g14) p55 
(oSet (xLook (lkEq false .int g55 q35)) p56 
oEnd)) (kCond g56 (kSeq (oSet (xMove g0) p57 
(oSet (xMove g1) p58 
(oSet (xMove g2) p59 
(oSet (xMove g4) p60 
(oSet (xCall q660 [g57, g58, g59, g60]) p61 
oEnd))))) (kSeq (oSet (xMove g2) p62 
(oSet (xLook (lkBin .sub g62 q16)) p63 
(oSet (xMove g13) p64 
(oSet (xMove g1) p65 
(oSet (xLook (lkBin .sub g64 g65)) p66 
(oSet (xLook (lkBin .sub g63 g66)) p67 
(oSet (xMove g67) p13 
oEnd))))))) (oSet (xMove q16) p14 
oEnd))) kSkip)) (kSeq (kSeq (oSet (xMove g10) p68 
(oSet (xMove g68) p69 
(oSetIf (wantT g69) (xMove g11) p70 
(oSet (xLook (lkPick g69 g70 q0)) p71 
(oSet (xMove g71) p72 
(oSetIf (wantT g72) (xMove g14) p73 
(oSetIf (wantT g72) (xLook (lkEq false .int g73 q16)) p74 
(oSet (xLook (lkPick g72 g74 q0)) p75 
oEnd)))))))) (kCond g75 (kSeq (oSet (xMove g0) p76 
(oSet (xMove g1) p77 
(oSet (xMove g2) p78 
(oSet (xMove g4) p79 
(oSet (xCall q661 [g76, g77, g78, g79]) p80 
oEnd))))) (kCond g80 kRet kSkip)) kSkip)) (kSeq (kSeq (kDraw 
(dLook (nat_lit 0) [] [] (lkMove g1) p81 
(dLook (nat_lit 1) [] [] (lkBin .gtr g81 q6) p82 
(dLook (nat_lit 2) [] [] (lkMove g82) p83 
(dIf [] (wantT g83) p84 (dLook (nat_lit 3) [] [] (lkMove g4) p84 k404d12) k404d12))))) (kCond g97 (kSeq (oSet (xMove g0) p98 
(oSet (xMove g1) p99 
(oSet (xMove g2) p100 
(oSet (xMove g13) p101 
(oSet (xMove g4) p102 
(oSet (xCall q662 [g98, g99, g100, g101, g102]) p103 
(oSet (xMove g103) p15 
oEnd))))))) (kSeq (oSet (xMove g15) p104 
(oSet (xMove g104) p1 
oEnd)) (kExit (nat_lit 1)))) kSkip)) (kSeq (oSet (xMove g0) p106 
(oSet (xMove g1) p107 
(oSet (xMove g2) p108 
(oSet (xMove g13) p109 
(oSet (xMove g4) p110 
(oSet (xCall q663 [g106, g107, g108, g109, g110]) p111 
(oSet (xMove g111) p105 
(oSet (xLook (lkExtract (nat_lit 0) g105)) p112 
(oSet (xLook (lkExtract (nat_lit 1) g105)) p113 
(oSet (xMove g112) p16 
(oSet (xMove g113) p17 
oEnd))))))))))) (kSeq (oSet (xMove g17) p114 
(oSet (xMove g114) p11 
oEnd)) (kSeq (oSet (xMove g16) p115 
(oSet (xMove g1) p116 
(oSet (xLook (lkBin .sub g115 g116)) p117 
(oSet (xMove g2) p118 
(oSet (xMove g16) p119 
(oSet (xLook (lkBin .sub g118 g119)) p120 
(oSet (xMove g117) p18 
(oSet (xMove g120) p19 
oEnd)))))))) (kSeq (oSet (xMove g12) p121 
(oSet (xLook (lkBin .quo g121 q38)) p122 
(oSet (xMove g122) p20 
oEnd))) (kSeq (oSet (xMove g18) p123 
(oSet (xMove g19) p124 
(oSet (xLook (lkBin .lss g123 g124)) p125 
oEnd))) (kCond g125 (kSeq (oSet (xMove g18) p126 
(oSet (xMove g20) p127 
(oSet (xLook (lkBin .geq g126 g127)) p128 
(oSet (xMove g128) p10 
oEnd)))) (kSeq (oSet (xMove g0) p129 
(oSet (xMove g1) p130 
(oSet (xMove g16) p131 
(oSet (xMove g3) p132 
(oSet (xMove g4) p133 
(oSet (xCall q528 [g129, g130, g131, g132, g133]) p134 
oEnd)))))) (oSet (xMove g16) p135 
(oSet (xLook (lkBin .add g135 q16)) p136 
(oSet (xMove g136) p1 
oEnd))))) (kSeq (oSet (xMove g19) p137 
(oSet (xMove g20) p138 
(oSet (xLook (lkBin .geq g137 g138)) p139 
(oSet (xMove g139) p10 
oEnd)))) (kSeq (oSet (xMove g0) p140 
(oSet (xMove g16) p141 
(oSet (xLook (lkBin .add g141 q16)) p142 
(oSet (xMove g2) p143 
(oSet (xMove g3) p144 
(oSet (xMove g4) p145 
(oSet (xCall q528 [g140, g142, g143, g144, g145]) p146 
oEnd))))))) (oSet (xMove g16) p147 
(oSet (xMove g147) p2 
oEnd)))))))))))))))))))))))⟩
noncomputable def k406 : KFun := ⟨[], (kSeq (oSet (xLook (lkLoad1 g1)) p4 
(oSet (xTurn (tnRangeMap g4)) p5 
oEnd)) (kBlock (nat_lit 0) (kLoop (kSeq (oSet (xNextMap g5) p6 
(oSet (xLook (lkExtract (nat_lit 0) g6)) p7 
oEnd)) (kSeq (kCond g7 kSkip (kExit (nat_lit 0))) (kBlock (nat_lit 1) (kSeq (oSet (xLook (lkEntry g5)) p8 
(oSet (xLook (lkExtract (nat_lit 0) g8)) p9 
(oSet (xMove g9) p3 
oEnd))) (kSeq (oSet (xMove g0) p10 
(oSet (xMove g3) p11 
(oSet (xCall g10 [g11]) p12 
(oSet (xLook (lkUn .not g12)) p13 
oEnd)))) (kCond g13 kRet kSkip)))))))))⟩
noncomputable def k424 : KFun := ⟨[rTmp (nat_lit 4) g4], (kSeq (oSet (xMove q562) p4 
oEnd) (kSeq (oSet (xMove g1) p6 
(oSet (xLook (lkIntTo .u64 g6)) p7 
(oSet (xLook (lkBin .and g7 q547)) p8 
(oSet (xMove g8) p5 
oEnd)))) (kSeq (oSet (xMove g0) p9 
(oSet (xMove g5) p10 
(oSet (xLook (lkBin .shl g9 g10)) p11 
(oSet (xMove g0) p12 
(oSet (xMove g5) p13 
(oSet (xLook (lkBin .sub q462 g13)) p14 
(oSet (xLook (lkBin .shr g12 g14)) p15 
(oSet (xLook (lkBin .or g11 g15)) p16 
(oSet (xMove g16) p4 
oEnd))))))))) kRet)))⟩
noncomputable def k427 : KFun := ⟨[rTmp (nat_lit 6) g6, rTmp (nat_lit 7) g7], (kSeq (oSet (xMove q6) p6 
(oSet (xMove q0) p7 
oEnd)) (kSeq (oSet (xMove g0) p12 
(oSet (xLook (lkLen .sl g12)) p13 
(oSet (xMove g13) p8 
oEnd))) (kSeq (oSet (xMove g8) p14 
(oSet (xMove q6) p9 
(oSet (xMove g14) p10 
oEnd))) (kSeq (kBlock (nat_lit 0) (kLoop (kSeq (kSeq (oSet (xMove g9) p15 
(oSet (xMove g10) p16 
(oSet (xLook (lkBin .lss g15 g16)) p17 
oEnd))) (kCond g17 kSkip (kExit (nat_lit 0)))) (kBlock (nat_lit 1) (kSeq (oSet (xMove g9) p18 
(oSet (xMove g10) p19 
(oSet (xLook (lkBin .add g18 g19)) p20 
(oSet (xLook (lkIntTo .u64 g20)) p21 
(oSet (xLook (lkBin .shr g21 q344)) p22 
(oSet (xLook (lkIntTo .i64 g22)) p23 
(oSet (xMove g23) p11 
oEnd))))))) (kSeq (oSet (xMove g2) p24 
(oSet (xMove g0) p25 
(oSet (xMove g11) p26 
(oSet (xLook (lkIxSl (nat_lit 2) g25 g26)) p27 
(oSet (xLook (lkLoadN (nat_lit 2) g27)) p28 
(oSet (xMove g1) p29 
(oSet (xCall g24 [g28, g29]) p30 
(oSet (xLook (lkBin .lss g30 q6)) p31 
oEnd)))))))) (kCond g31 (oSet (xMove g11) p32 
(oSet (xLook (lkBin .add g32 q16)) p33 
(oSet (xMove g33) p9 
oEnd))) (oSet (xMove g11) p34 
(oSet (xMove g34) p10 
oEnd))))))))) (kSeq (oSet (xMove g9) p35 
(oSet (xMove g9) p36 
(oSet (xMove g8) p37 
(oSet (xLook (lkBin .lss g36 g37)) p38 
(oSet (xMove g38) p39 
(oSetIf (wantT g39) (xMove g2) p40 
(oSetIf (wantT g39) (xMove g0) p41 
(oSetIf (wantT g39) (xMove g9) p42 
(oSetIf (wantT g39) (xLook (lkIxSl (nat_lit 2) g41 g42)) p43 
(oSetIf (wantT g39) (xLook (lkLoadN (nat_lit 2) g43)) p44 
(oSetIf (wantT g39) (xMove g1) p45 
(oSetIf (wantT g39) (xCall g40 [g44, g45]) p46 
(oSetIf (wantT g39) (xLook (lkEq false .int g46 q6)) p47 
(oSet (xLook (lkPick g39 g47 q0)) p48 
(oSet (xMove g35) p6 
(oSet (xMove g48) p7 
oEnd)))))))))))))))) kRet)))))⟩
noncomputable def k428 : KFun := ⟨[rTmp (nat_lit 4) g4], (kSeq (oSet (xTurn (tnBox g0)) p2 
(oSet (xMove q6) p4 
oEnd)) (kSeq (kSeq (oSet (xLook (lkLoadN (nat_lit 2) g2)) p5 
(oSet (xCall q492 [g5]) p6 
(oSet (xMove g1) p7 
(oSet (xLook (lkBin .leq g6 g7)) p8 
oEnd)))) (kCond g8 (kSeq (oSet (xMove q269) p4 
oEnd) kRet) kSkip)) (kSeq (oSet (xMove q16) p4 
oEnd) kRet)))⟩
noncomputable def k438d0 : KD := 
(dLook (nat_lit 14) [] [(nat_lit 13)] (lkPick g19 g29 q0) p30 (dEnd [(nat_lit 16), (nat_lit 17), (nat_lit 18), (nat_lit 19), (nat_lit 20), (nat_lit 21), (nat_lit 22), (nat_lit 23), (nat_lit 24), (nat_lit 25), (nat_lit 26), (nat_lit 27), (nat_lit 28), (nat_lit 29), (nat_lit 30)]))
noncomputable def k438d1 : KD := 
(dIf [] (wantT g19) p29 (dTurn (nat_lit 13) [] [] true (xCall q653 [g23, g28]) p29 k438d0) k438d0)
noncomputable def k438d2 : KD := 
(dIf [] (wantT g19) p28 (dLook (nat_lit 12) [] [] (lkLoad1 g27) p28 k438d1) k438d1)
noncomputable def k438d3 : KD := 
(dIf [] (wantT g19) p27 (dLook (nat_lit 11) [] [] (lkIxSl (nat_lit 1) g24 g26) p27 k438d2) k438d2)
noncomputable def k438d4 : KD := 
(dIf [] (wantT g19) p26 (dLook (nat_lit 10) [] [] (lkBin .sub g25 q16) p26 k438d3) k438d3)
noncomputable def k438d5 : KD := 
(dIf [] (wantT g19) p25 (dLook (nat_lit 9) [] [] (lkMove g7) p25 k438d4) k438d4)
noncomputable def k438d6 : KD := 
(dIf [] (wantT g19) p24 (dLook (nat_lit 8) [] [] (lkMove g0) p24 k438d5) k438d5)
noncomputable def k438d7 : KD := 
(dIf [] (wantT g19) p23 (dLook (nat_lit 7) [] [] (lkLoad1 g22) p23 k438d6) k438d6)
noncomputable def k438d8 : KD := 
(dIf [] (wantT g19) p22 (dLook (nat_lit 6) [] [] (lkIxSl (nat_lit 1) g20 g21) p22 k438d7) k438d7)
noncomputable def k438d9 : KD := 
(dIf [] (wantT g19) p21 (dLook (nat_lit 5) [] [] (lkMove g7) p21 k438d8) k438d8)
noncomputable def k438 : KFun := ⟨[], (kSeq (oSet (xMove g1) p8 
(oSet (xLook (lkBin .add g8 q16)) p9 
(oSet (xMove g9) p6 
oEnd))) (kBlock (nat_lit 0) (kLoop (kSeq (kSeq (oSet (xMove g6) p10 
(oSet (xMove g2) p11 
(oSet (xLook (lkBin .lss g10 g11)) p12 
oEnd))) (kCond g12 kSkip (kExit (nat_lit 0)))) (kSeq (kBlock (nat_lit 1) (kSeq (oSet (xMove g6) p15 
(oSet (xMove g15) p7 
oEnd)) (kBlock (nat_lit 2) (kLoop (kSeq (kSeq (kDraw 
(dLook (nat_lit 0) [] [] (lkMove g7) p16 
(dLook (nat_lit 1) [] [] (lkMove g1) p17 
(dLook (nat_lit 2) [] [] (lkBin .gtr g16 g17) p18 
(dLook (nat_lit 3) [] [] (lkMove g18) p19 
(dIf [] (wantT g19) p20 (dLook (nat_lit 4) [] [] (lkMove g0) p20 k438d9) k438d9)))))) (kCond g30 kSkip (kExit (nat_lit 2)))) (kSeq (kBlock (nat_lit 3) (kDraw 
(dLook (nat_lit 0) [] [] (lkMove g0) p33 
(dLook (nat_lit 1) [] [] (lkMove g7) p34 
(dLook (nat_lit 2) [] [] (lkMove g0) p35 
(dLook (nat_lit 3) [] [] (lkMove g7) p36 
(dLook (nat_lit 4) [] [] (lkBin .sub g36 q16) p37 
(dLook (nat_lit 5) [] [] (lkMove g0) p38 
(dLook (nat_lit 6) [] [] (lkMove g7) p39 
(dLook (nat_lit 7) [] [] (lkBin .sub g39 q16) p40 
(dLook (nat_lit 8) [] [] (lkIxSl (nat_lit 1) g38 g40) p41 
(dLook (nat_lit 9) [] [] (lkLoad1 g41) p42 
(dLook (nat_lit 10) [] [] (lkMove g0) p43 
(dLook (nat_lit 11) [] [] (lkMove g7) p44 
(dLook (nat_lit 12) [] [] (lkIxSl (nat_lit 1) g43 g44) p45 
(dLook (nat_lit 13) [] [] (lkLoad1 g45) p46 
(dLook (nat_lit 14) [] [] (lkIxSl (nat_lit 1) g33 g34) p47 
(dTurn (nat_lit 15) [] [] true (xTurn (tnStore (nat_lit 1) g47 g42)) noDst 
(dLook (nat_lit 16) [] [(nat_lit 15)] (lkIxSl (nat_lit 1) g35 g37) p48 
(dTurn (nat_lit 17) [] [(nat_lit 15)] true (xTurn (tnStore (nat_lit 1) g48 g46)) noDst (dEnd [(nat_lit 33), (nat_lit 34), (nat_lit 35), (nat_lit 36), (nat_lit 37), (nat_lit 38), (nat_lit 39), (nat_lit 40), (nat_lit 41), (nat_lit 42), (nat_lit 43), (nat_lit 44), (nat_lit 45), (nat_lit 46), (nat_lit 47), (nat_lit 48)]))))))))))))))))))))) (oSet (xMove g7) p31 
(oSet (xLook (lkBin .sub g31 q16)) p32 
(oSet (xMove g32) p7 
oEnd))))))))) (oSet (xMove g6) p13 
(oSet (xLook (lkBin .add g13 q16)) p14 
(oSet (xMove g14) p6 
oEnd))))))))⟩
noncomputable def k447d0 : KD := 
(dLook (nat_lit 16) [] [(nat_lit 14)] (lkPick g21 g33 q0) p34 (dEnd [(nat_lit 18), (nat_lit 19), (nat_lit 20), (nat_lit 21), (nat_lit 22), (nat_lit 23), (nat_lit 24), (nat_lit 25), (nat_lit 26), (nat_lit 27), (nat_lit 28), (nat_lit 29), (nat_lit 30), (nat_lit 31), (nat_lit 32), (nat_lit 33), (nat_lit 34)]))
noncomputable def k447d1 : KD := 
(dIf [(nat_lit 14)] (wantT g21) p33 (dLook (nat_lit 15) [] [(nat_lit 14)] (lkBin .lss g32 q6) p33 k447d0) k447d0)
noncomputable def k447d2 : KD := 
(dIf [] (wantT g21) p32 (dTurn (nat_lit 14) [] [] true (xCall g22 [g26, g31]) p32 k447d1) k447d1)
noncomputable def k447d3 : KD := 
(dIf [] (wantT g21) p31 (dLook (nat_lit 13) [] [] (lkLoadN (nat_lit 2) g30) p31 k447d2) k447d2)
noncomputable def k447d4 : KD := 
(dIf [] (wantT g21) p30 (dLook (nat_lit 12) [] [] (lkIxSl (nat_lit 2) g27 g29) p30 k447d3) k447d3)
noncomputable def k447d5 : KD := 
(dIf [] (wantT g21) p29 (dLook (nat_lit 11) [] [] (lkBin .sub g28 q16) p29 k447d4) k447d4)
noncomputable def k447d6 : KD := 
(dIf [] (wantT g21) p28 (dLook (nat_lit 10) [] [] (lkMove g9) p28 k447d5) k447d5)
noncomputable def k447d7 : KD := 
(dIf [] (wantT g21) p27 (dLook (nat_lit 9) [] [] (lkMove g0) p27 k447d6) k447d6)
noncomputable def k447d8 : KD := 
(dIf [] (wantT g21) p26 (dLook (nat_lit 8) [] [] (lkLoadN (nat_lit 2) g25) p26 k447d7) k447d7)
noncomputable def k447d9 : KD := 
(dIf [] (wantT g21) p25 (dLook (nat_lit 7) [] [] (lkIxSl (nat_lit 2) g23 g24) p25 k447d8) k447d8)
noncomputable def k447d10 : KD := 
(dIf [] (wantT g21) p24 (dLook (nat_lit 6) [] [] (lkMove g9) p24 k447d9) k447d9)
noncomputable def k447d11 : KD := 
(dIf [] (wantT g21) p23 (dLook (nat_lit 5) [] [] (lkMove g0) p23 k447d10) k447d10)
noncomputable def k447 : KFun := ⟨[], (kSeq (oSet (xMove g1) p10 
(oSet (xLook (lkBin .add g10 q16)) p11 
(oSet (xMove g11) p8 
oEnd))) (kBlock (nat_lit 0) (kLoop (kSeq (kSeq (oSet (xMove g8) p12 
(oSet (xMove g2) p13 
(oSet (xLook (lkBin .lss g12 g13)) p14 
oEnd))) (kCond g14 kSkip (kExit (nat_lit 0)))) (kSeq (kBlock (nat_lit 1) (kSeq (oSet (xMove g8) p17 
(oSet (xMove g17) p9 
oEnd)) (kBlock (nat_lit 2) (kLoop (kSeq (kSeq (kDraw 
(dLook (nat_lit 0) [] [] (lkMove g9) p18 
(dLook (nat_lit 1) [] [] (lkMove g1) p19 
(dLook (nat_lit 2) [] [] (lkBin .gtr g18 g19) p20 
(dLook (nat_lit 3) [] [] (lkMove g20) p21 
(dIf [] (wantT g21) p22 (dLook (nat_lit 4) [] [] (lkMove g3) p22 k447d11) k447d11)))))) (kCond g34 kSkip (kExit (nat_lit 2)))) (kSeq (kBlock (nat_lit 3) (kDraw 
(dLook (nat_lit 0) [] [] (lkMove g0) p37 
(dLook (nat_lit 1) [] [] (lkMove g9) p38 
(dLook (nat_lit 2) [] [] (lkMove g0) p39 
(dLook (nat_lit 3) [] [] (lkMove g9) p40 
(dLook (nat_lit 4) [] [] (lkBin .sub g40 q16) p41 
(dLook (nat_lit 5) [] [] (lkMove g0) p42 
(dLook (nat_lit 6) [] [] (lkMove g9) p43 
(dLook (nat_lit 7) [] [] (lkBin .sub g43 q16) p44 
(dLook (nat_lit 8) [] [] (lkIxSl (nat_lit 2) g42 g44) p45 
(dLook (nat_lit 9) [] [] (lkLoadN (nat_lit 2) g45) p46 
(dLook (nat_lit 10) [] [] (lkMove g0) p47 
(dLook (nat_lit 11) [] [] (lkMove g9) p48 
(dLook (nat_lit 12) [] [] (lkIxSl (nat_lit 2) g47 g48) p49 
(dLook (nat_lit 13) [] [] (lkLoadN (nat_lit 2) g49) p50 
(dLook (nat_lit 14) [] [] (lkIxSl (nat_lit 2) g37 g38) p51 
(dTurn (nat_lit 15) [] [] true (xTurn (tnStore (nat_lit 2) g51 g46)) noDst 
(dLook (nat_lit 16) [] [(nat_lit 15)] (lkIxSl (nat_lit 2) g39 g41) p52 
(dTurn (nat_lit 17) [] [(nat_lit 15)] true (xTurn (tnStore (nat_lit 2) g52 g50)) noDst (dEnd [(nat_lit 37), (nat_lit 38), (nat_lit 39), (nat_lit 40), (nat_lit 41), (nat_lit 42), (nat_lit 43), (nat_lit 44), (nat_lit 45), (nat_lit 46), (nat_lit 47), (nat_lit 48), (nat_lit 49), (nat_lit 50), (nat_lit 51), (nat_lit 52)]))))))))))))))))))))) (oSet (xMove g9) p35 
(oSet (xLook (lkBin .sub g35 q16)) p36 
(oSet (xMove g36) p9 
oEnd))))))))) (oSet (xMove g8) p15 
(oSet (xLook (lkBin .add g15 q16)) p16 
(oSet (xMove g16) p8 
oEnd))))))))⟩
noncomputable def tab : Tr KFun := (.node none (.node none (.node (some k3) (.node (some k7) (.node (some k15) (.node none (.node (some k63) (.node (some k127) .nil .nil) (.node (some k191) .nil (.node (some k447) .nil .nil))) (.node (some k95) (.node (some k159) (.node (some k287) .nil .nil) .nil) (.node (some k223) .nil .nil))) (.node none (.node (some k79) .nil (.node (some k207) (.node (some k335) .nil .nil) .nil)) (.node (some k111) .nil (.node (some k239) .nil .nil)))) (.node none (.node (some k39) (.node none (.node (some k135) (.node (some k263) .nil .nil) .nil) .nil) (.node none (.node (some k167) .nil .nil) (.node (some k231) .nil .nil))) (.node (some k55) (.node none (.node (some k151) (.node (some k279) .nil .nil) .nil) (.node (some k215) .nil .nil)) (.node (some k119) (.node (some k183) .nil .nil) (.node (some k247) (.node (some k375) .nil .nil) .nil))))) (.node (some k11) (.node (some k19) (.node none (.node none (.node (some k131) (.node (some k259) .nil .nil) (.node (some k387) .nil .nil)) (.node (some k195) .nil .nil)) (.node (some k99) (.node (some k163) (.node (some k291) .nil .nil) .nil) (.node (some k227) .nil .nil))) (.node none (.node (some k83) (.node (some k147) .nil (.node (some k403) .nil .nil)) .nil) (.node (some k115) (.node none (.node (some k307) .nil .nil) .nil) (.node (some k243) (.node (some k371) .nil .nil) .nil)))) (.node none (.node (some k43) (.node none .nil (.node (some k203) .nil .nil)) (.node (some k107) (.node (some k171) .nil (.node (some k427) .nil .nil)) (.node (some k235) .nil .nil))) (.node (some k59) (.node none (.node (some k155) .nil .nil) (.node none (.node (some k347) .nil .nil) .nil)) (.node (some k123) (.node (some k187) (.node (some k315) .nil .nil) .nil) .nil))))) (.node (some k5) (.node (some k9) (.node (some k17) (.node (some k33) (.node (some k65) (.node (some k129) (.node (some k257) .nil .nil) .nil) (.node (some k193) .nil .nil)) (.node (some k97) (.node (some k161) (.node (some k289) .nil .nil) .nil) (.node (some k225) .nil .nil))) (.node none (.node none (.node none .nil (.node (some k401) .nil .nil)) (.node (some k209) (.node (some k337) .nil .nil) .nil)) (.node none (.node (some k177) (.node (some k305) .nil .nil) .nil) .nil))) (.node (some k25) (.node (some k41) (.node none (.node (some k137) .nil .nil) .nil) (.node (some k105) (.node (some k169) .nil .nil) .nil)) (.node (some k57) (.node none (.node (some k153) .nil .nil) (.node (some k217) (.node (some k345) .nil .nil) .nil)) (.node (some k121) .nil (.node (some k249) (.node (some k377) .nil .nil) .nil))))) (.node (some k13) (.node (some k21) (.node none (.node none (.node (some k133) .nil .nil) .nil) (.node (some k101) (.node (some k165) (.node (some k293) .nil .nil) .nil) (.node (some k229) .nil .nil))) (.node (some k53) (.node (some k85) .nil (.node (some k213) (.node (some k341) .nil .nil) .nil)) (.node (some k117) (.node (some k181) (.node (some k309) .nil .nil) .nil) (.node (some k245) (.node (some k373) .nil .nil) .nil)))) (.node none (.node none (.node (some k77) .nil (.node none (.node (some k333) .nil .nil) .nil)) (.node (some k109) (.node none (.node (some k301) .nil .nil) .nil) .nil)) (.node (some k61) (.node (some k93) (.node (some k157) (.node (some k285) .nil .nil) .nil) (.node (some k221) (.node (some k349) .nil .nil) .nil)) (.node none (.node (some k189) (.node (some k317) .nil .nil) .nil) .nil)))))) (.node none (.node (some k4) (.node (some k8) (.node (some k16) (.node none (.node none (.node (some k128) .nil .nil) (.node (some k192) (.node (some k320) .nil .nil) .nil)) (.node (some k96) (.node (some k160) (.node (some k288) .nil .nil) .nil) (.node (some k224) (.node (some k352) .nil .nil) .nil))) (.node none (.node none (.node (some k144) .nil .nil) (.node (some k208) .nil .nil)) (.node none (.node (some k176) .nil .nil) (.node (some k240) .nil .nil)))) (.node (some k24) (.node (some k40) (.node none (.node (some k136) (.node (some k264) .nil .nil) (.node (some k392) .nil .nil)) .nil) (.node (some k104) (.node none .nil (.node (some k424) .nil .nil)) .nil)) (.node (some k56) (.node none (.node (some k152) (.node (some k280) .nil .nil) .nil) (.node (some k216) .nil .nil)) (.node (some k120) (.node none (.node (some k312) .nil .nil) .nil) (.node (some k248) (.node (some k376) .nil .nil) .nil))))) (.node (some k12) (.node (some k20) (.node none (.node none (.node (some k132) .nil .nil) .nil) (.node (some k100) (.node none (.node (some k292) .nil .nil) .nil) (.node (some k228) .nil .nil))) (.node none (.node none (.node (some k148) .nil (.node (some k404) .nil .nil)) (.node (some k212) .nil .nil)) (.node (some k116) .nil (.node (some k244) (.node (some k372) .nil .nil) .nil)))) (.node (some k28) (.node (some k44) (.node (some k76) (.node (some k140) .nil .nil) (.node none (.node (some k332) .nil .nil) .nil)) (.node (some k108) (.node none .nil (.node (some k428) .nil .nil)) (.node (some k236) .nil .nil))) (.node (some k60) (.node none (.node (some k156) (.node (some k284) .nil .nil) .nil) (.node (some k220) .nil .nil)) (.node (some k124) (.node (some k188) (.node (some k316) .nil .nil) .nil) .nil))))) (.node (some k6) (.node (some k10) (.node (some k18) (.node (some k34) (.node none (.node (some k130) .nil .nil) (.node (some k194) .nil .nil)) (.node none (.node (some k162) (.node (some k290) .nil .nil) .nil) (.node (some k226) .nil .nil))) (.node (some k50) (.node (some k82) (.node (some k146) (.node (some k274) .nil .nil) (.node (some k402) .nil .nil)) .nil) (.node none (.node (some k178) (.node (some k306) .nil .nil) .nil) .nil))) (.node none (.node (some k42) (.node (some k74) (.node (some k138) .nil (.node (some k394) .nil .nil)) .nil) (.node (some k106) .nil (.node (some k234) .nil .nil))) (.node (some k58) (.node none (.node (some k154) .nil .nil) (.node (some k218) (.node (some k346) .nil .nil) .nil)) (.node (some k122) (.node (some k186) (.node (some k314) .nil .nil) .nil) (.node none (.node (some k378) .nil .nil) .nil))))) (.node (some k14) (.node (some k22) (.node none (.node (some k70) (.node (some k134) (.node (some k262) .nil .nil) .nil) .nil) (.node (some k102) (.node (some k166) .nil .nil) (.node (some k230) .nil .nil))) (.node none (.node (some k86) (.node none .nil (.node (some k406) .nil .nil)) (.node (some k214) (.node (some k342) .nil .nil) .nil)) (.node none (.node (some k182) (.node (some k310) .nil .nil) (.node (some k438) .nil .nil)) (.node none (.node (some k374) .nil .nil) .nil)))) (.node (some k30) (.node none (.node (some k78) .nil (.node (some k206) (.node (some k334) .nil .nil) .nil)) (.node (some k110) .nil (.node (some k238) .nil .nil))) (.node none (.node (some k94) (.node (some k158) (.node (some k286) .nil .nil) .nil) (.node (some k222) (.node (some k350) .nil .nil) .nil)) (.node none (.node (some k190) .nil .nil) .nil)))))))
end Go.Proofs.YtmahngadjllfpaaGreatDoor.Eng
