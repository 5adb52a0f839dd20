/-
  The functions that the laws reach, as the abstract machine runs them, printed by program. No condition.
-/
import Derived.Test.YtfknpknbgfkbdaaA
namespace Go.Proofs.Ytfknpknbgfkbdaa.Eng
open Go Go.Eng
set_option linter.unusedVariables false
set_option maxRecDepth 100000

def q0 : OpdF := kC (.bool false)
def q1 : OpdF := kC (.func (.func (nat_lit 9)) ⟨[]⟩ ⟨[]⟩)
def q2 : List Value := [(.string ⟨⟨[]⟩⟩), (.string ⟨⟨[]⟩⟩), (.string ⟨⟨[]⟩⟩), (.string ⟨⟨[]⟩⟩)]
def q3 : OpdF := kC (.func (.func (nat_lit 10)) ⟨[]⟩ ⟨[]⟩)
def q4 : OpdF := kC (.int .i64 (.ofNat (nat_lit 2)))
def q5 : OpdF := kC (.int .i64 (.ofNat (nat_lit 100)))
def q6 : OpdF := kC (.bool true)
def q7 : OpdF := kC (.func (.func (nat_lit 11)) ⟨[]⟩ ⟨[]⟩)
def q8 : OpdF := kC (.func (.func (nat_lit 12)) ⟨[]⟩ ⟨[]⟩)
noncomputable def k3d0 : KD := 
(dLook (nat_lit 28) [] [(nat_lit 3), (nat_lit 6), (nat_lit 11), (nat_lit 15), (nat_lit 20), (nat_lit 25)] (lkPick g80 g89 q0) p90 
(dLook (nat_lit 29) [] [(nat_lit 3), (nat_lit 6), (nat_lit 11), (nat_lit 15), (nat_lit 20), (nat_lit 25)] (lkMove g90) p6 (dEnd [(nat_lit 62), (nat_lit 63), (nat_lit 64), (nat_lit 65), (nat_lit 66), (nat_lit 67), (nat_lit 68), (nat_lit 69), (nat_lit 70), (nat_lit 71), (nat_lit 72), (nat_lit 73), (nat_lit 74), (nat_lit 75), (nat_lit 76), (nat_lit 77), (nat_lit 78), (nat_lit 79), (nat_lit 80), (nat_lit 81), (nat_lit 82), (nat_lit 83), (nat_lit 84), (nat_lit 85), (nat_lit 86), (nat_lit 87), (nat_lit 88), (nat_lit 89), (nat_lit 90), (nat_lit 6)])))
noncomputable def k3d1 : KD := 
(dIf [(nat_lit 3), (nat_lit 6), (nat_lit 11), (nat_lit 15), (nat_lit 20), (nat_lit 25)] (wantT g80) p89 (dLook (nat_lit 27) [] [(nat_lit 3), (nat_lit 6), (nat_lit 11), (nat_lit 15), (nat_lit 20), (nat_lit 25)] (lkPick g84 q6 g88) p89 k3d0) k3d0)
noncomputable def k3d2 : KD := 
(dIf [(nat_lit 3), (nat_lit 6), (nat_lit 11), (nat_lit 15), (nat_lit 20), (nat_lit 25)] (wantF g84) p88 (dLook (nat_lit 26) [] [(nat_lit 3), (nat_lit 6), (nat_lit 11), (nat_lit 15), (nat_lit 20), (nat_lit 25)] (lkUn .not g87) p88 k3d1) k3d1)
noncomputable def k3d3 : KD := 
(dIf [(nat_lit 3), (nat_lit 6), (nat_lit 11), (nat_lit 15), (nat_lit 20)] (wantF g84) p87 (dTurn (nat_lit 25) [] [(nat_lit 3), (nat_lit 6), (nat_lit 11), (nat_lit 15), (nat_lit 20)] true (xCall q8 [g85, g86]) p87 k3d2) k3d2)
noncomputable def k3d4 : KD := 
(dIf [(nat_lit 3), (nat_lit 6), (nat_lit 11), (nat_lit 15), (nat_lit 20)] (wantF g84) p86 (dLook (nat_lit 24) [] [(nat_lit 3), (nat_lit 6), (nat_lit 11), (nat_lit 15), (nat_lit 20)] (lkMove g2) p86 k3d3) k3d3)
noncomputable def k3d5 : KD := 
(dIf [(nat_lit 3), (nat_lit 6), (nat_lit 11), (nat_lit 15), (nat_lit 20)] (wantF g84) p85 (dLook (nat_lit 23) [] [(nat_lit 3), (nat_lit 6), (nat_lit 11), (nat_lit 15), (nat_lit 20)] (lkLoadN (nat_lit 2) g3) p85 k3d4) k3d4)
noncomputable def k3d6 : KD := 
(dIf [(nat_lit 3), (nat_lit 6), (nat_lit 11), (nat_lit 15), (nat_lit 20)] (wantT g80) p84 (dLook (nat_lit 22) [] [(nat_lit 3), (nat_lit 6), (nat_lit 11), (nat_lit 15), (nat_lit 20)] (lkMove g83) p84 k3d5) k3d5)
def q9 : OpdF := kC (.func (.func (nat_lit 13)) ⟨[]⟩ ⟨[]⟩)
noncomputable def k3d7 : KD := 
(dIf [(nat_lit 3), (nat_lit 6), (nat_lit 11), (nat_lit 15), (nat_lit 20)] (wantT g80) p83 (dLook (nat_lit 21) [] [(nat_lit 3), (nat_lit 6), (nat_lit 11), (nat_lit 15), (nat_lit 20)] (lkUn .not g82) p83 k3d6) k3d6)
noncomputable def k3d8 : KD := 
(dIf [(nat_lit 3), (nat_lit 6), (nat_lit 11), (nat_lit 15)] (wantT g80) p82 (dTurn (nat_lit 20) [] [(nat_lit 3), (nat_lit 6), (nat_lit 11), (nat_lit 15)] true (xCall q9 [g81]) p82 k3d7) k3d7)
noncomputable def k3d9 : KD := 
(dLook (nat_lit 17) [] [(nat_lit 3), (nat_lit 6), (nat_lit 11), (nat_lit 15)] (lkPick g71 g78 q0) p79 
(dLook (nat_lit 18) [] [(nat_lit 3), (nat_lit 6), (nat_lit 11), (nat_lit 15)] (lkMove g79) p80 
(dIf [(nat_lit 3), (nat_lit 6), (nat_lit 11), (nat_lit 15)] (wantT g80) p81 (dLook (nat_lit 19) [] [(nat_lit 3), (nat_lit 6), (nat_lit 11), (nat_lit 15)] (lkLoadN (nat_lit 2) g3) p81 k3d8) k3d8)))
noncomputable def k3d10 : KD := 
(dIf [(nat_lit 3), (nat_lit 6), (nat_lit 11), (nat_lit 15)] (wantT g71) p78 (dLook (nat_lit 16) [] [(nat_lit 3), (nat_lit 6), (nat_lit 11), (nat_lit 15)] (lkEq true .bool g73 g77) p78 k3d9) k3d9)
noncomputable def k3d11 : KD := 
(dIf [(nat_lit 3), (nat_lit 6), (nat_lit 11)] (wantT g71) p77 (dTurn (nat_lit 15) [] [(nat_lit 3), (nat_lit 6), (nat_lit 11)] true (xCall q8 [g74, g76]) p77 k3d10) k3d10)
noncomputable def k3d12 : KD := 
(dIf [(nat_lit 3), (nat_lit 6)] (wantT g71) p76 (dLook (nat_lit 14) [(nat_lit 11)] [(nat_lit 3), (nat_lit 6)] (lkLoad1 g75) p76 k3d11) k3d11)
noncomputable def k3d13 : KD := 
(dIf [(nat_lit 3), (nat_lit 6)] (wantT g71) p75 (dLook (nat_lit 13) [] [(nat_lit 3), (nat_lit 6)] (lkFieldAddr (nat_lit 0) g3) p75 k3d12) k3d12)
noncomputable def k3d14 : KD := 
(dIf [(nat_lit 3), (nat_lit 6)] (wantT g71) p74 (dLook (nat_lit 12) [(nat_lit 11)] [(nat_lit 3), (nat_lit 6)] (lkLoadN (nat_lit 2) g3) p74 k3d13) k3d13)
noncomputable def k3d15 : KD := 
(dIf [(nat_lit 3), (nat_lit 6)] (wantT g71) p73 (dTurn (nat_lit 11) [] [(nat_lit 3), (nat_lit 6)] true (xCall q9 [g72]) p73 k3d14) k3d14)
noncomputable def k3d16 : KD := 
(dLook (nat_lit 8) [] [(nat_lit 3), (nat_lit 6)] (lkPick g63 g69 q0) p70 
(dLook (nat_lit 9) [] [(nat_lit 3), (nat_lit 6)] (lkMove g70) p71 
(dIf [(nat_lit 3), (nat_lit 6)] (wantT g71) p72 (dLook (nat_lit 10) [] [(nat_lit 3), (nat_lit 6)] (lkLoadN (nat_lit 2) g3) p72 k3d15) k3d15)))
noncomputable def k3d17 : KD := 
(dIf [(nat_lit 3), (nat_lit 6)] (wantT g63) p69 (dLook (nat_lit 7) [] [(nat_lit 3), (nat_lit 6)] (lkEq true .bool g65 g68) p69 k3d16) k3d16)
noncomputable def k3d18 : KD := 
(dIf [(nat_lit 3)] (wantT g63) p68 (dTurn (nat_lit 6) [] [(nat_lit 3)] true (xCall q7 [g66, g67]) p68 k3d17) k3d17)
noncomputable def k3d19 : KD := 
(dIf [] (wantT g63) p67 (dLook (nat_lit 5) [(nat_lit 3)] [] (lkLoadN (nat_lit 2) g3) p67 k3d18) k3d18)
noncomputable def k3d20 : KD := 
(dIf [] (wantT g63) p66 (dLook (nat_lit 4) [(nat_lit 3)] [] (lkLoadN (nat_lit 2) g3) p66 k3d19) k3d19)
noncomputable def k3d21 : KD := 
(dIf [] (wantT g63) p65 (dTurn (nat_lit 3) [] [] true (xCall q9 [g64]) p65 k3d20) k3d20)
noncomputable def k3 : KFun := ⟨[rTmp (nat_lit 6) g6], (kSeq (oSet (xTurn (tnBox g0)) p3 
(oSet (xTurn (tnBox g1)) p4 
(oSet (xMove q0) p6 
oEnd))) (kSeq (oSet (xCall q1 []) p11 
(oSet (xMove g11) p7 
oEnd)) (kSeq (kSeq (oSet (xLook (lkLoadN (nat_lit 2) g3)) p12 
(oSet (xLook (lkLoadN (nat_lit 2) g4)) p13 
(oSet (xTurn (tnBuildSlice q2 [((nat_lit 0), (nat_lit 2), g12), ((nat_lit 2), (nat_lit 2), g13)] (nat_lit 2))) p14 
(oSet (xCall q3 [g14, q4]) p15 
(oSet (xMove g15) p16 
(oSetIf (wantF g16) (xMove g2) p17 
(oSetIf (wantF g16) (xLook (lkLen .str g17)) p18 
(oSetIf (wantF g16) (xLook (lkBin .gtr g18 q5)) p19 
(oSet (xLook (lkPick g16 q6 g19)) p20 
oEnd))))))))) (kCond g20 (kSeq (oSet (xMove g7) p21 
(oSet (xMove g21) p6 
oEnd)) kRet) kSkip)) (kSeq (oSet (xLook (lkFieldAddr (nat_lit 0) g3)) p22 
(oSet (xLook (lkLoad1 g22)) p23 
(oSet (xLook (lkFieldAddr (nat_lit 0) g4)) p24 
(oSet (xLook (lkLoad1 g24)) p25 
(oSet (xLook (lkMax g23 [g25])) p26 
(oSet (xMove g26) p8 
oEnd)))))) (kSeq (oSet (xLook (lkLoadN (nat_lit 2) g3)) p27 
(oSet (xLook (lkLoadN (nat_lit 2) g4)) p28 
(oSet (xCall q7 [g27, g28]) p29 
(oSet (xMove g29) p9 
oEnd)))) (kSeq (oSet (xLook (lkLoadN (nat_lit 2) g3)) p30 
(oSet (xMove g2) p31 
(oSet (xCall q8 [g30, g31]) p32 
(oSet (xMove g32) p33 
(oSetIf (wantT g33) (xLook (lkLoadN (nat_lit 2) g4)) p34 
(oSetIf (wantT g33) (xMove g2) p35 
(oSetIf (wantT g33) (xCall q8 [g34, g35]) p36 
(oSet (xLook (lkPick g33 g36 q0)) p37 
(oSet (xMove g37) p10 
oEnd))))))))) (kSeq (kSeq (oSet (xMove g10) p38 
(oSet (xMove g38) p39 
(oSetIf (wantT g39) (xMove g9) p40 
(oSetIf (wantT g39) (xLook (lkUn .not g40)) p41 
(oSet (xLook (lkPick g39 g41 q0)) p42 
(oSet (xMove g42) p43 
(oSetIf (wantF g43) (xMove g9) p44 
(oSetIf (wantF g43) (xLook (lkLoadN (nat_lit 2) g3)) p45 
(oSetIf (wantF g43) (xMove g8) p46 
(oSetIf (wantF g43) (xCall q8 [g45, g46]) p47 
(oSetIf (wantF g43) (xMove g47) p48 
(oSetIf (wantT g48) (xLook (lkLoadN (nat_lit 2) g4)) p49 
(oSetIf (wantT g48) (xMove g8) p50 
(oSetIf (wantT g48) (xCall q8 [g49, g50]) p51 
(oSetIf (wantF g43) (xLook (lkPick g48 g51 q0)) p52 
(oSetIf (wantF g43) (xLook (lkEq true .bool g44 g52)) p53 
(oSet (xLook (lkPick g43 q6 g53)) p54 
(oSet (xMove g54) p55 
(oSetIf (wantF g55) (xMove g9) p56 
(oSetIf (wantF g55) (xLook (lkLoadN (nat_lit 2) g4)) p57 
(oSetIf (wantF g55) (xLook (lkLoadN (nat_lit 2) g3)) p58 
(oSetIf (wantF g55) (xCall q7 [g57, g58]) p59 
(oSetIf (wantF g55) (xLook (lkEq true .bool g56 g59)) p60 
(oSet (xLook (lkPick g55 q6 g60)) p61 
oEnd)))))))))))))))))))))))) (kCond g61 (kSeq (oSet (xMove q0) p6 
oEnd) kRet) kSkip)) (kSeq (kDraw 
(dLook (nat_lit 0) [] [] (lkMove g7) p62 
(dLook (nat_lit 1) [] [] (lkMove g62) p63 
(dIf [] (wantT g63) p64 (dLook (nat_lit 2) [] [] (lkLoadN (nat_lit 2) g3) p64 k3d21) k3d21)))) kRet))))))))⟩
noncomputable def k4d0 : KD := 
(dLook (nat_lit 41) [] [(nat_lit 2), (nat_lit 5), (nat_lit 9), (nat_lit 11), (nat_lit 17), (nat_lit 20), (nat_lit 25), (nat_lit 27), (nat_lit 33), (nat_lit 36), (nat_lit 40)] (lkPick g55 g56 q0) p57 
(dLook (nat_lit 42) [] [(nat_lit 2), (nat_lit 5), (nat_lit 9), (nat_lit 11), (nat_lit 17), (nat_lit 20), (nat_lit 25), (nat_lit 27), (nat_lit 33), (nat_lit 36), (nat_lit 40)] (lkMove g57) p6 (dEnd [(nat_lit 16), (nat_lit 17), (nat_lit 18), (nat_lit 19), (nat_lit 20), (nat_lit 21), (nat_lit 22), (nat_lit 23), (nat_lit 24), (nat_lit 25), (nat_lit 26), (nat_lit 27), (nat_lit 28), (nat_lit 29), (nat_lit 30), (nat_lit 31), (nat_lit 32), (nat_lit 33), (nat_lit 34), (nat_lit 35), (nat_lit 36), (nat_lit 37), (nat_lit 38), (nat_lit 39), (nat_lit 40), (nat_lit 41), (nat_lit 42), (nat_lit 43), (nat_lit 44), (nat_lit 45), (nat_lit 46), (nat_lit 47), (nat_lit 48), (nat_lit 49), (nat_lit 50), (nat_lit 51), (nat_lit 52), (nat_lit 53), (nat_lit 54), (nat_lit 55), (nat_lit 56), (nat_lit 57), (nat_lit 6)])))
noncomputable def k4d1 : KD := 
(dLook (nat_lit 38) [] [(nat_lit 2), (nat_lit 5), (nat_lit 9), (nat_lit 11), (nat_lit 17), (nat_lit 20), (nat_lit 25), (nat_lit 27), (nat_lit 33), (nat_lit 36)] (lkPick g46 g53 q0) p54 
(dLook (nat_lit 39) [] [(nat_lit 2), (nat_lit 5), (nat_lit 9), (nat_lit 11), (nat_lit 17), (nat_lit 20), (nat_lit 25), (nat_lit 27), (nat_lit 33), (nat_lit 36)] (lkMove g54) p55 
(dIf [(nat_lit 2), (nat_lit 5), (nat_lit 9), (nat_lit 11), (nat_lit 17), (nat_lit 20), (nat_lit 25), (nat_lit 27), (nat_lit 33), (nat_lit 36)] (wantT g55) p56 (dTurn (nat_lit 40) [] [(nat_lit 2), (nat_lit 5), (nat_lit 9), (nat_lit 11), (nat_lit 17), (nat_lit 20), (nat_lit 25), (nat_lit 27), (nat_lit 33), (nat_lit 36)] true (xCall q1 []) p56 k4d0) k4d0)))
def q10 : OpdF := kC (.func (.func (nat_lit 20)) ⟨[]⟩ ⟨[]⟩)
noncomputable def k4d2 : KD := 
(dIf [(nat_lit 2), (nat_lit 5), (nat_lit 9), (nat_lit 11), (nat_lit 17), (nat_lit 20), (nat_lit 25), (nat_lit 27), (nat_lit 33), (nat_lit 36)] (wantT g46) p53 (dLook (nat_lit 37) [] [(nat_lit 2), (nat_lit 5), (nat_lit 9), (nat_lit 11), (nat_lit 17), (nat_lit 20), (nat_lit 25), (nat_lit 27), (nat_lit 33), (nat_lit 36)] (lkEq false (.flat [.str, .str]) g49 g52) p53 k4d1) k4d1)
noncomputable def k4d3 : KD := 
(dIf [(nat_lit 2), (nat_lit 5), (nat_lit 9), (nat_lit 11), (nat_lit 17), (nat_lit 20), (nat_lit 25), (nat_lit 27), (nat_lit 33)] (wantT g46) p52 (dTurn (nat_lit 36) [] [(nat_lit 2), (nat_lit 5), (nat_lit 9), (nat_lit 11), (nat_lit 17), (nat_lit 20), (nat_lit 25), (nat_lit 27), (nat_lit 33)] true (xCall q10 [g50, g51]) p52 k4d2) k4d2)
noncomputable def k4d4 : KD := 
(dIf [(nat_lit 2), (nat_lit 5), (nat_lit 9), (nat_lit 11), (nat_lit 17), (nat_lit 20), (nat_lit 25), (nat_lit 27)] (wantT g46) p51 (dLook (nat_lit 35) [] [(nat_lit 2), (nat_lit 5), (nat_lit 9), (nat_lit 11), (nat_lit 17), (nat_lit 20), (nat_lit 25), (nat_lit 27)] (lkMove g2) p51 k4d3) k4d3)
def q11 : OpdF := kC (.func (.func (nat_lit 19)) ⟨[]⟩ ⟨[]⟩)
noncomputable def k4d5 : KD := 
(dIf [(nat_lit 2), (nat_lit 5), (nat_lit 9), (nat_lit 11), (nat_lit 17), (nat_lit 20), (nat_lit 25), (nat_lit 27)] (wantT g46) p50 (dLook (nat_lit 34) [(nat_lit 33)] [(nat_lit 2), (nat_lit 5), (nat_lit 9), (nat_lit 11), (nat_lit 17), (nat_lit 20), (nat_lit 25), (nat_lit 27)] (lkLoadN (nat_lit 2) g3) p50 k4d4) k4d4)
noncomputable def k4d6 : KD := 
(dIf [(nat_lit 2), (nat_lit 5), (nat_lit 9), (nat_lit 11), (nat_lit 17), (nat_lit 20), (nat_lit 25), (nat_lit 27)] (wantT g46) p49 (dTurn (nat_lit 33) [] [(nat_lit 2), (nat_lit 5), (nat_lit 9), (nat_lit 11), (nat_lit 17), (nat_lit 20), (nat_lit 25), (nat_lit 27)] true (xCall q11 [g47, g48]) p49 k4d5) k4d5)
noncomputable def k4d7 : KD := 
(dIf [(nat_lit 2), (nat_lit 5), (nat_lit 9), (nat_lit 11), (nat_lit 17), (nat_lit 20), (nat_lit 25), (nat_lit 27)] (wantT g46) p48 (dLook (nat_lit 32) [] [(nat_lit 2), (nat_lit 5), (nat_lit 9), (nat_lit 11), (nat_lit 17), (nat_lit 20), (nat_lit 25), (nat_lit 27)] (lkMove g2) p48 k4d6) k4d6)
noncomputable def k4d8 : KD := 
(dLook (nat_lit 29) [] [(nat_lit 2), (nat_lit 5), (nat_lit 9), (nat_lit 11), (nat_lit 17), (nat_lit 20), (nat_lit 25), (nat_lit 27)] (lkPick g39 g44 q0) p45 
(dLook (nat_lit 30) [] [(nat_lit 2), (nat_lit 5), (nat_lit 9), (nat_lit 11), (nat_lit 17), (nat_lit 20), (nat_lit 25), (nat_lit 27)] (lkMove g45) p46 
(dIf [(nat_lit 2), (nat_lit 5), (nat_lit 9), (nat_lit 11), (nat_lit 17), (nat_lit 20), (nat_lit 25), (nat_lit 27)] (wantT g46) p47 (dLook (nat_lit 31) [] [(nat_lit 2), (nat_lit 5), (nat_lit 9), (nat_lit 11), (nat_lit 17), (nat_lit 20), (nat_lit 25), (nat_lit 27)] (lkLoadN (nat_lit 2) g3) p47 k4d7) k4d7)))
def q12 : OpdF := kC (.func (.func (nat_lit 18)) ⟨[]⟩ ⟨[]⟩)
noncomputable def k4d9 : KD := 
(dIf [(nat_lit 2), (nat_lit 5), (nat_lit 9), (nat_lit 11), (nat_lit 17), (nat_lit 20), (nat_lit 25), (nat_lit 27)] (wantT g39) p44 (dLook (nat_lit 28) [] [(nat_lit 2), (nat_lit 5), (nat_lit 9), (nat_lit 11), (nat_lit 17), (nat_lit 20), (nat_lit 25), (nat_lit 27)] (lkEq false (.flat [.str, .str]) g41 g43) p44 k4d8) k4d8)
noncomputable def k4d10 : KD := 
(dIf [(nat_lit 2), (nat_lit 5), (nat_lit 9), (nat_lit 11), (nat_lit 17), (nat_lit 20), (nat_lit 25)] (wantT g39) p43 (dTurn (nat_lit 27) [] [(nat_lit 2), (nat_lit 5), (nat_lit 9), (nat_lit 11), (nat_lit 17), (nat_lit 20), (nat_lit 25)] true (xCall q12 [g42]) p43 k4d9) k4d9)
def q13 : OpdF := kC (.func (.func (nat_lit 17)) ⟨[]⟩ ⟨[]⟩)
noncomputable def k4d11 : KD := 
(dIf [(nat_lit 2), (nat_lit 5), (nat_lit 9), (nat_lit 11), (nat_lit 17), (nat_lit 20)] (wantT g39) p42 (dLook (nat_lit 26) [] [(nat_lit 2), (nat_lit 5), (nat_lit 9), (nat_lit 11), (nat_lit 17), (nat_lit 20)] (lkMove g2) p42 k4d10) k4d10)
noncomputable def k4d12 : KD := 
(dIf [(nat_lit 2), (nat_lit 5), (nat_lit 9), (nat_lit 11), (nat_lit 17), (nat_lit 20)] (wantT g39) p41 (dTurn (nat_lit 25) [] [(nat_lit 2), (nat_lit 5), (nat_lit 9), (nat_lit 11), (nat_lit 17), (nat_lit 20)] true (xCall q13 [g40]) p41 k4d11) k4d11)
noncomputable def k4d13 : KD := 
(dLook (nat_lit 22) [] [(nat_lit 2), (nat_lit 5), (nat_lit 9), (nat_lit 11), (nat_lit 17), (nat_lit 20)] (lkPick g30 g37 q0) p38 
(dLook (nat_lit 23) [] [(nat_lit 2), (nat_lit 5), (nat_lit 9), (nat_lit 11), (nat_lit 17), (nat_lit 20)] (lkMove g38) p39 
(dIf [(nat_lit 2), (nat_lit 5), (nat_lit 9), (nat_lit 11), (nat_lit 17), (nat_lit 20)] (wantT g39) p40 (dLook (nat_lit 24) [] [(nat_lit 2), (nat_lit 5), (nat_lit 9), (nat_lit 11), (nat_lit 17), (nat_lit 20)] (lkMove g2) p40 k4d12) k4d12)))
def q14 : OpdF := kC (.func (.func (nat_lit 16)) ⟨[]⟩ ⟨[]⟩)
noncomputable def k4d14 : KD := 
(dIf [(nat_lit 2), (nat_lit 5), (nat_lit 9), (nat_lit 11), (nat_lit 17), (nat_lit 20)] (wantT g30) p37 (dLook (nat_lit 21) [] [(nat_lit 2), (nat_lit 5), (nat_lit 9), (nat_lit 11), (nat_lit 17), (nat_lit 20)] (lkEq false .bool g33 g36) p37 k4d13) k4d13)
noncomputable def k4d15 : KD := 
(dIf [(nat_lit 2), (nat_lit 5), (nat_lit 9), (nat_lit 11), (nat_lit 17)] (wantT g30) p36 (dTurn (nat_lit 20) [] [(nat_lit 2), (nat_lit 5), (nat_lit 9), (nat_lit 11), (nat_lit 17)] true (xCall q14 [g34, g35]) p36 k4d14) k4d14)
noncomputable def k4d16 : KD := 
(dIf [(nat_lit 2), (nat_lit 5), (nat_lit 9), (nat_lit 11)] (wantT g30) p35 (dLook (nat_lit 19) [(nat_lit 17)] [(nat_lit 2), (nat_lit 5), (nat_lit 9), (nat_lit 11)] (lkLoadN (nat_lit 2) g4) p35 k4d15) k4d15)
noncomputable def k4d17 : KD := 
(dIf [(nat_lit 2), (nat_lit 5), (nat_lit 9), (nat_lit 11)] (wantT g30) p34 (dLook (nat_lit 18) [(nat_lit 17)] [(nat_lit 2), (nat_lit 5), (nat_lit 9), (nat_lit 11)] (lkLoadN (nat_lit 2) g3) p34 k4d16) k4d16)
noncomputable def k4d18 : KD := 
(dIf [(nat_lit 2), (nat_lit 5), (nat_lit 9), (nat_lit 11)] (wantT g30) p33 (dTurn (nat_lit 17) [] [(nat_lit 2), (nat_lit 5), (nat_lit 9), (nat_lit 11)] true (xCall q7 [g31, g32]) p33 k4d17) k4d17)
noncomputable def k4d19 : KD := 
(dIf [(nat_lit 2), (nat_lit 5), (nat_lit 9), (nat_lit 11)] (wantT g30) p32 (dLook (nat_lit 16) [] [(nat_lit 2), (nat_lit 5), (nat_lit 9), (nat_lit 11)] (lkLoadN (nat_lit 2) g4) p32 k4d18) k4d18)
noncomputable def k4d20 : KD := 
(dLook (nat_lit 13) [] [(nat_lit 2), (nat_lit 5), (nat_lit 9), (nat_lit 11)] (lkPick g23 g28 q0) p29 
(dLook (nat_lit 14) [] [(nat_lit 2), (nat_lit 5), (nat_lit 9), (nat_lit 11)] (lkMove g29) p30 
(dIf [(nat_lit 2), (nat_lit 5), (nat_lit 9), (nat_lit 11)] (wantT g30) p31 (dLook (nat_lit 15) [] [(nat_lit 2), (nat_lit 5), (nat_lit 9), (nat_lit 11)] (lkLoadN (nat_lit 2) g3) p31 k4d19) k4d19)))
def q15 : OpdF := kC (.func (.func (nat_lit 15)) ⟨[]⟩ ⟨[]⟩)
noncomputable def k4d21 : KD := 
(dIf [(nat_lit 2), (nat_lit 5), (nat_lit 9), (nat_lit 11)] (wantT g23) p28 (dLook (nat_lit 12) [] [(nat_lit 2), (nat_lit 5), (nat_lit 9), (nat_lit 11)] (lkEq false .bool g25 g27) p28 k4d20) k4d20)
noncomputable def k4d22 : KD := 
(dIf [(nat_lit 2), (nat_lit 5), (nat_lit 9)] (wantT g23) p27 (dTurn (nat_lit 11) [] [(nat_lit 2), (nat_lit 5), (nat_lit 9)] true (xCall q15 [g26]) p27 k4d21) k4d21)
noncomputable def k4d23 : KD := 
(dIf [(nat_lit 2), (nat_lit 5)] (wantT g23) p26 (dLook (nat_lit 10) [(nat_lit 9)] [(nat_lit 2), (nat_lit 5)] (lkLoadN (nat_lit 2) g3) p26 k4d22) k4d22)
noncomputable def k4d24 : KD := 
(dIf [(nat_lit 2), (nat_lit 5)] (wantT g23) p25 (dTurn (nat_lit 9) [] [(nat_lit 2), (nat_lit 5)] true (xCall q9 [g24]) p25 k4d23) k4d23)
def q16 : OpdF := kC (.func (.func (nat_lit 14)) ⟨[]⟩ ⟨[]⟩)
noncomputable def k4 : KFun := ⟨[rTmp (nat_lit 6) g6], (kSeq (oSet (xTurn (tnBox g0)) p3 
(oSet (xTurn (tnBox g1)) p4 
(oSet (xMove q0) p6 
oEnd))) (kSeq (kSeq (oSet (xLook (lkLoadN (nat_lit 2) g3)) p7 
(oSet (xLook (lkLoadN (nat_lit 2) g4)) p8 
(oSet (xTurn (tnBuildSlice q2 [((nat_lit 0), (nat_lit 2), g7), ((nat_lit 2), (nat_lit 2), g8)] (nat_lit 2))) p9 
(oSet (xCall q3 [g9, q4]) p10 
(oSet (xMove g10) p11 
(oSetIf (wantF g11) (xMove g2) p12 
(oSetIf (wantF g11) (xLook (lkLen .str g12)) p13 
(oSetIf (wantF g11) (xLook (lkBin .gtr g13 q5)) p14 
(oSet (xLook (lkPick g11 q6 g14)) p15 
oEnd))))))))) (kCond g15 (kSeq (oSet (xMove q6) p6 
oEnd) kRet) kSkip)) (kSeq (kDraw 
(dLook (nat_lit 0) [] [] (lkLoadN (nat_lit 2) g3) p16 
(dLook (nat_lit 1) [] [] (lkMove g2) p17 
(dTurn (nat_lit 2) [] [] true (xCall q8 [g16, g17]) p18 
(dLook (nat_lit 3) [(nat_lit 2)] [] (lkLoadN (nat_lit 2) g3) p19 
(dLook (nat_lit 4) [] [] (lkMove g2) p20 
(dTurn (nat_lit 5) [] [(nat_lit 2)] true (xCall q16 [g19, g20]) p21 
(dLook (nat_lit 6) [] [(nat_lit 2), (nat_lit 5)] (lkEq false .bool g18 g21) p22 
(dLook (nat_lit 7) [] [(nat_lit 2), (nat_lit 5)] (lkMove g22) p23 
(dIf [(nat_lit 2), (nat_lit 5)] (wantT g23) p24 (dLook (nat_lit 8) [] [(nat_lit 2), (nat_lit 5)] (lkLoadN (nat_lit 2) g3) p24 k4d24) k4d24)))))))))) kRet)))⟩
def q17 : List Value := [(.string ⟨⟨[]⟩⟩), (.string ⟨⟨[]⟩⟩)]
def q18 : OpdF := kC (.int .i64 (.ofNat (nat_lit 1)))
noncomputable def k5d0 : KD := 
(dLook (nat_lit 28) [] [(nat_lit 4), (nat_lit 9), (nat_lit 18), (nat_lit 21)] (lkPick g45 g57 q0) p58 
(dLook (nat_lit 29) [] [(nat_lit 4), (nat_lit 9), (nat_lit 18), (nat_lit 21)] (lkMove g58) p6 (dEnd [(nat_lit 30), (nat_lit 31), (nat_lit 32), (nat_lit 33), (nat_lit 34), (nat_lit 35), (nat_lit 36), (nat_lit 37), (nat_lit 38), (nat_lit 39), (nat_lit 40), (nat_lit 41), (nat_lit 42), (nat_lit 43), (nat_lit 44), (nat_lit 45), (nat_lit 46), (nat_lit 47), (nat_lit 48), (nat_lit 49), (nat_lit 50), (nat_lit 51), (nat_lit 52), (nat_lit 53), (nat_lit 54), (nat_lit 55), (nat_lit 56), (nat_lit 57), (nat_lit 58), (nat_lit 6)])))
noncomputable def k5d1 : KD := 
(dIf [(nat_lit 4), (nat_lit 9), (nat_lit 18), (nat_lit 21)] (wantT g45) p57 (dLook (nat_lit 27) [] [(nat_lit 4), (nat_lit 9), (nat_lit 18), (nat_lit 21)] (lkEq false .bool g48 g56) p57 k5d0) k5d0)
noncomputable def k5d2 : KD := 
(dIf [(nat_lit 4), (nat_lit 9), (nat_lit 18), (nat_lit 21)] (wantT g45) p56 (dLook (nat_lit 26) [] [(nat_lit 4), (nat_lit 9), (nat_lit 18), (nat_lit 21)] (lkPick g52 g55 q0) p56 k5d1) k5d1)
noncomputable def k5d3 : KD := 
(dIf [(nat_lit 4), (nat_lit 9), (nat_lit 18), (nat_lit 21)] (wantT g52) p55 (dLook (nat_lit 25) [] [(nat_lit 4), (nat_lit 9), (nat_lit 18), (nat_lit 21)] (lkBin .leq g53 g54) p55 k5d2) k5d2)
noncomputable def k5d4 : KD := 
(dIf [(nat_lit 4), (nat_lit 9), (nat_lit 18), (nat_lit 21)] (wantT g52) p54 (dLook (nat_lit 24) [] [(nat_lit 4), (nat_lit 9), (nat_lit 18), (nat_lit 21)] (lkMove g1) p54 k5d3) k5d3)
noncomputable def k5d5 : KD := 
(dIf [(nat_lit 4), (nat_lit 9), (nat_lit 18), (nat_lit 21)] (wantT g52) p53 (dLook (nat_lit 23) [] [(nat_lit 4), (nat_lit 9), (nat_lit 18), (nat_lit 21)] (lkMove g2) p53 k5d4) k5d4)
noncomputable def k5d6 : KD := 
(dIf [(nat_lit 4), (nat_lit 9), (nat_lit 18), (nat_lit 21)] (wantT g45) p52 (dLook (nat_lit 22) [] [(nat_lit 4), (nat_lit 9), (nat_lit 18), (nat_lit 21)] (lkMove g51) p52 k5d5) k5d5)
noncomputable def k5d7 : KD := 
(dIf [(nat_lit 4), (nat_lit 9), (nat_lit 18)] (wantT g45) p51 (dTurn (nat_lit 21) [] [(nat_lit 4), (nat_lit 9), (nat_lit 18)] true (xCall q8 [g49, g50]) p51 k5d6) k5d6)
noncomputable def k5d8 : KD := 
(dIf [(nat_lit 4), (nat_lit 9)] (wantT g45) p50 (dLook (nat_lit 20) [] [(nat_lit 4), (nat_lit 9)] (lkMove g2) p50 k5d7) k5d7)
noncomputable def k5d9 : KD := 
(dIf [(nat_lit 4), (nat_lit 9)] (wantT g45) p49 (dLook (nat_lit 19) [(nat_lit 18)] [(nat_lit 4), (nat_lit 9)] (lkLoadN (nat_lit 2) g3) p49 k5d8) k5d8)
noncomputable def k5d10 : KD := 
(dIf [(nat_lit 4), (nat_lit 9)] (wantT g45) p48 (dTurn (nat_lit 18) [] [(nat_lit 4), (nat_lit 9)] true (xCall q8 [g46, g47]) p48 k5d9) k5d9)
noncomputable def k5d11 : KD := 
(dIf [(nat_lit 4), (nat_lit 9)] (wantT g45) p47 (dLook (nat_lit 17) [] [(nat_lit 4), (nat_lit 9)] (lkMove g2) p47 k5d10) k5d10)
noncomputable def k5d12 : KD := 
(dLook (nat_lit 14) [] [(nat_lit 4), (nat_lit 9)] (lkPick g36 g43 q0) p44 
(dLook (nat_lit 15) [] [(nat_lit 4), (nat_lit 9)] (lkMove g44) p45 
(dIf [(nat_lit 4), (nat_lit 9)] (wantT g45) p46 (dLook (nat_lit 16) [] [(nat_lit 4), (nat_lit 9)] (lkLoadN (nat_lit 2) g9) p46 k5d11) k5d11)))
noncomputable def k5d13 : KD := 
(dIf [(nat_lit 4), (nat_lit 9)] (wantT g36) p43 (dLook (nat_lit 13) [] [(nat_lit 4), (nat_lit 9)] (lkEq false .bool g39 g42) p43 k5d12) k5d12)
noncomputable def k5d14 : KD := 
(dIf [(nat_lit 4)] (wantT g36) p42 (dLook (nat_lit 12) [] [(nat_lit 4)] (lkEq false .str g40 g41) p42 k5d13) k5d13)
noncomputable def k5d15 : KD := 
(dIf [(nat_lit 4)] (wantT g36) p41 (dLook (nat_lit 11) [] [(nat_lit 4)] (lkMove g2) p41 k5d14) k5d14)
noncomputable def k5d16 : KD := 
(dIf [(nat_lit 4)] (wantT g36) p40 (dLook (nat_lit 10) [] [(nat_lit 4)] (lkMove g1) p40 k5d15) k5d15)
noncomputable def k5d17 : KD := 
(dIf [(nat_lit 4)] (wantT g36) p39 (dTurn (nat_lit 9) [] [(nat_lit 4)] true (xCall q8 [g37, g38]) p39 k5d16) k5d16)
noncomputable def k5d18 : KD := 
(dIf [(nat_lit 4)] (wantT g36) p38 (dLook (nat_lit 8) [] [(nat_lit 4)] (lkMove g2) p38 k5d17) k5d17)
noncomputable def k5d19 : KD := 
(dLook (nat_lit 5) [] [(nat_lit 4)] (lkPick g31 g34 q0) p35 
(dLook (nat_lit 6) [] [(nat_lit 4)] (lkMove g35) p36 
(dIf [(nat_lit 4)] (wantT g36) p37 (dLook (nat_lit 7) [] [(nat_lit 4)] (lkLoadN (nat_lit 2) g8) p37 k5d18) k5d18)))
noncomputable def k5d20 : KD := 
(dIf [] (wantT g31) p34 (dTurn (nat_lit 4) [] [] true (xCall q8 [g32, g33]) p34 k5d19) k5d19)
noncomputable def k5d21 : KD := 
(dIf [] (wantT g31) p33 (dLook (nat_lit 3) [] [] (lkMove g1) p33 k5d20) k5d20)
noncomputable def k5 : KFun := ⟨[rTmp (nat_lit 6) g6], (kSeq (oSet (xTurn (tnBox g0)) p3 
(oSet (xMove q0) p6 
oEnd)) (kSeq (oSet (xCall q1 []) p10 
(oSet (xMove g10) p7 
oEnd)) (kSeq (kSeq (oSet (xLook (lkLoadN (nat_lit 2) g3)) p11 
(oSet (xTurn (tnBuildSlice q17 [((nat_lit 0), (nat_lit 2), g11)] (nat_lit 1))) p12 
(oSet (xCall q3 [g12, q18]) p13 
(oSet (xMove g13) p14 
(oSetIf (wantF g14) (xMove g1) p15 
(oSetIf (wantF g14) (xLook (lkLen .str g15)) p16 
(oSetIf (wantF g14) (xLook (lkBin .gtr g16 q5)) p17 
(oSet (xLook (lkPick g14 q6 g17)) p18 
(oSet (xMove g18) p19 
(oSetIf (wantF g19) (xMove g2) p20 
(oSetIf (wantF g19) (xLook (lkLen .str g20)) p21 
(oSetIf (wantF g19) (xLook (lkBin .gtr g21 q5)) p22 
(oSet (xLook (lkPick g19 q6 g22)) p23 
oEnd))))))))))))) (kCond g23 (kSeq (oSet (xMove g7) p24 
(oSet (xMove g24) p6 
oEnd)) kRet) kSkip)) (kSeq (kDraw 
(dLook (nat_lit 0) [] [] (lkMove g1) p25 
(dTurn (nat_lit 1) [] [] true (xCall q13 [g25]) p26 
(dLook (nat_lit 2) [(nat_lit 1)] [] (lkLoadN (nat_lit 2) g3) p27 
(dLook (nat_lit 3) [] [] (lkMove g1) p28 
(dTurn (nat_lit 4) [] [(nat_lit 1)] true (xCall q11 [g27, g28]) p29 
(dTurn (nat_lit 5) [] [] false (xTurn (tnAlloc q17)) p8 
(dTurn (nat_lit 6) [] [] false (xTurn (tnAlloc q17)) p9 
(dTurn (nat_lit 7) [] [(nat_lit 1), (nat_lit 4)] true (xTurn (tnStore (nat_lit 2) g8 g26)) noDst 
(dTurn (nat_lit 8) [] [(nat_lit 1), (nat_lit 4), (nat_lit 7)] true (xTurn (tnStore (nat_lit 2) g9 g29)) noDst (dEnd [(nat_lit 25), (nat_lit 26), (nat_lit 27), (nat_lit 28), (nat_lit 29), (nat_lit 8), (nat_lit 9)]))))))))))) (kSeq (kDraw 
(dLook (nat_lit 0) [] [] (lkMove g7) p30 
(dLook (nat_lit 1) [] [] (lkMove g30) p31 
(dIf [] (wantT g31) p32 (dLook (nat_lit 2) [] [] (lkLoadN (nat_lit 2) g8) p32 k5d21) k5d21)))) kRet)))))⟩
def q19 : OpdF := kC (.int .i64 (.ofNat (nat_lit 60)))
def q20 : OpdF := kC (.func (.func (nat_lit 21)) ⟨[]⟩ ⟨[]⟩)
def q21 : OpdF := kC (.func (.func (nat_lit 22)) ⟨[]⟩ ⟨[]⟩)
def q22 : OpdF := kC (.func (.func (nat_lit 24)) ⟨[]⟩ ⟨[]⟩)
def q23 : OpdF := kC (.func (.func (nat_lit 23)) ⟨[]⟩ ⟨[]⟩)
def q24 : OpdF := kC (.func (.func (nat_lit 25)) ⟨[]⟩ ⟨[]⟩)
noncomputable def k6d0 : KD := 
(dLook (nat_lit 26) [] [(nat_lit 4), (nat_lit 9), (nat_lit 12), (nat_lit 18), (nat_lit 21), (nat_lit 25)] (lkPick g61 g62 q0) p63 
(dLook (nat_lit 27) [] [(nat_lit 4), (nat_lit 9), (nat_lit 12), (nat_lit 18), (nat_lit 21), (nat_lit 25)] (lkMove g63) p6 (dEnd [(nat_lit 37), (nat_lit 38), (nat_lit 39), (nat_lit 40), (nat_lit 41), (nat_lit 42), (nat_lit 43), (nat_lit 44), (nat_lit 45), (nat_lit 46), (nat_lit 47), (nat_lit 48), (nat_lit 49), (nat_lit 50), (nat_lit 51), (nat_lit 52), (nat_lit 53), (nat_lit 54), (nat_lit 55), (nat_lit 56), (nat_lit 57), (nat_lit 58), (nat_lit 59), (nat_lit 60), (nat_lit 61), (nat_lit 62), (nat_lit 63), (nat_lit 6)])))
noncomputable def k6d1 : KD := 
(dLook (nat_lit 23) [] [(nat_lit 4), (nat_lit 9), (nat_lit 12), (nat_lit 18), (nat_lit 21)] (lkPick g52 g59 q0) p60 
(dLook (nat_lit 24) [] [(nat_lit 4), (nat_lit 9), (nat_lit 12), (nat_lit 18), (nat_lit 21)] (lkMove g60) p61 
(dIf [(nat_lit 4), (nat_lit 9), (nat_lit 12), (nat_lit 18), (nat_lit 21)] (wantT g61) p62 (dTurn (nat_lit 25) [] [(nat_lit 4), (nat_lit 9), (nat_lit 12), (nat_lit 18), (nat_lit 21)] true (xCall q1 []) p62 k6d0) k6d0)))
def q25 : OpdF := kC (.func (.func (nat_lit 29)) ⟨[]⟩ ⟨[]⟩)
noncomputable def k6d2 : KD := 
(dIf [(nat_lit 4), (nat_lit 9), (nat_lit 12), (nat_lit 18), (nat_lit 21)] (wantT g52) p59 (dLook (nat_lit 22) [] [(nat_lit 4), (nat_lit 9), (nat_lit 12), (nat_lit 18), (nat_lit 21)] (lkEq false .bool g55 g58) p59 k6d1) k6d1)
noncomputable def k6d3 : KD := 
(dIf [(nat_lit 4), (nat_lit 9), (nat_lit 12), (nat_lit 18)] (wantT g52) p58 (dTurn (nat_lit 21) [] [(nat_lit 4), (nat_lit 9), (nat_lit 12), (nat_lit 18)] true (xCall q25 [g56, g57]) p58 k6d2) k6d2)
noncomputable def k6d4 : KD := 
(dIf [(nat_lit 4), (nat_lit 9), (nat_lit 12)] (wantT g52) p57 (dLook (nat_lit 20) [(nat_lit 18)] [(nat_lit 4), (nat_lit 9), (nat_lit 12)] (lkLoadN (nat_lit 2) g4) p57 k6d3) k6d3)
def q26 : OpdF := kC (.func (.func (nat_lit 28)) ⟨[]⟩ ⟨[]⟩)
noncomputable def k6d5 : KD := 
(dIf [(nat_lit 4), (nat_lit 9), (nat_lit 12)] (wantT g52) p56 (dLook (nat_lit 19) [] [(nat_lit 4), (nat_lit 9), (nat_lit 12)] (lkMove g0) p56 k6d4) k6d4)
noncomputable def k6d6 : KD := 
(dIf [(nat_lit 4), (nat_lit 9), (nat_lit 12)] (wantT g52) p55 (dTurn (nat_lit 18) [] [(nat_lit 4), (nat_lit 9), (nat_lit 12)] true (xCall q26 [g53, g54]) p55 k6d5) k6d5)
noncomputable def k6d7 : KD := 
(dIf [(nat_lit 4), (nat_lit 9), (nat_lit 12)] (wantT g52) p54 (dLook (nat_lit 17) [] [(nat_lit 4), (nat_lit 9), (nat_lit 12)] (lkLoadN (nat_lit 2) g4) p54 k6d6) k6d6)
noncomputable def k6d8 : KD := 
(dLook (nat_lit 14) [] [(nat_lit 4), (nat_lit 9), (nat_lit 12)] (lkPick g43 g50 q0) p51 
(dLook (nat_lit 15) [] [(nat_lit 4), (nat_lit 9), (nat_lit 12)] (lkMove g51) p52 
(dIf [(nat_lit 4), (nat_lit 9), (nat_lit 12)] (wantT g52) p53 (dLook (nat_lit 16) [] [(nat_lit 4), (nat_lit 9), (nat_lit 12)] (lkMove g0) p53 k6d7) k6d7)))
def q27 : OpdF := kC (.func (.func (nat_lit 27)) ⟨[]⟩ ⟨[]⟩)
noncomputable def k6d9 : KD := 
(dIf [(nat_lit 4), (nat_lit 9), (nat_lit 12)] (wantT g43) p50 (dLook (nat_lit 13) [] [(nat_lit 4), (nat_lit 9), (nat_lit 12)] (lkEq false .bool g46 g49) p50 k6d8) k6d8)
noncomputable def k6d10 : KD := 
(dIf [(nat_lit 4), (nat_lit 9)] (wantT g43) p49 (dTurn (nat_lit 12) [] [(nat_lit 4), (nat_lit 9)] true (xCall q27 [g47, g48]) p49 k6d9) k6d9)
noncomputable def k6d11 : KD := 
(dIf [(nat_lit 4)] (wantT g43) p48 (dLook (nat_lit 11) [] [(nat_lit 4)] (lkMove g2) p48 k6d10) k6d10)
def q28 : OpdF := kC (.func (.func (nat_lit 26)) ⟨[]⟩ ⟨[]⟩)
noncomputable def k6d12 : KD := 
(dIf [(nat_lit 4)] (wantT g43) p47 (dLook (nat_lit 10) [] [(nat_lit 4)] (lkMove g0) p47 k6d11) k6d11)
noncomputable def k6d13 : KD := 
(dIf [(nat_lit 4)] (wantT g43) p46 (dTurn (nat_lit 9) [] [(nat_lit 4)] true (xCall q28 [g44, g45]) p46 k6d12) k6d12)
noncomputable def k6d14 : KD := 
(dIf [(nat_lit 4)] (wantT g43) p45 (dLook (nat_lit 8) [] [(nat_lit 4)] (lkMove g2) p45 k6d13) k6d13)
noncomputable def k6d15 : KD := 
(dLook (nat_lit 5) [] [(nat_lit 4)] (lkPick g38 g41 q0) p42 
(dLook (nat_lit 6) [] [(nat_lit 4)] (lkMove g42) p43 
(dIf [(nat_lit 4)] (wantT g43) p44 (dLook (nat_lit 7) [] [(nat_lit 4)] (lkMove g0) p44 k6d14) k6d14)))
noncomputable def k6d16 : KD := 
(dIf [] (wantT g38) p41 (dTurn (nat_lit 4) [] [] true (xCall q23 [g39, g40]) p41 k6d15) k6d15)
noncomputable def k6d17 : KD := 
(dIf [] (wantT g38) p40 (dLook (nat_lit 3) [] [] (lkMove g0) p40 k6d16) k6d16)
noncomputable def k6 : KFun := ⟨[rTmp (nat_lit 6) g6], (kSeq (oSet (xTurn (tnBox g1)) p4 
(oSet (xMove q0) p6 
oEnd)) (kSeq (kSeq (oSet (xMove g0) p10 
(oSet (xCall q3 [g10, q19]) p11 
(oSet (xMove g11) p12 
(oSetIf (wantF g12) (xLook (lkLoadN (nat_lit 2) g4)) p13 
(oSetIf (wantF g12) (xTurn (tnBuildSlice q17 [((nat_lit 0), (nat_lit 2), g13)] (nat_lit 1))) p14 
(oSetIf (wantF g12) (xCall q3 [g14, q18]) p15 
(oSet (xLook (lkPick g12 q6 g15)) p16 
(oSet (xMove g16) p17 
(oSetIf (wantF g17) (xMove g2) p18 
(oSetIf (wantF g17) (xLook (lkLen .str g18)) p19 
(oSetIf (wantF g17) (xLook (lkBin .gtr g19 q5)) p20 
(oSet (xLook (lkPick g17 q6 g20)) p21 
oEnd)))))))))))) (kCond g21 (kSeq (oSet (xMove q6) p6 
oEnd) kRet) kSkip)) (kSeq (oSet (xMove g0) p22 
(oSet (xCall q20 [g22]) p23 
(oSet (xMove g23) p7 
oEnd))) (kSeq (oSet (xMove g7) p24 
(oSet (xCall q21 [g24]) p25 
(oSet (xMove g25) p8 
oEnd))) (kSeq (oSet (xMove g8) p26 
(oSet (xMove g0) p27 
(oSet (xCall q22 [g27]) p28 
(oSet (xCall q23 [g26, g28]) p29 
(oSet (xMove g29) p30 
(oSetIf (wantT g30) (xMove g7) p31 
(oSetIf (wantT g30) (xMove g0) p32 
(oSetIf (wantT g30) (xCall q23 [g31, g32]) p33 
(oSet (xLook (lkPick g30 g33 q0)) p34 
(oSet (xMove g34) p9 
oEnd)))))))))) (kSeq (oSet (xMove g8) p35 
(oSet (xCall q24 [g35]) p36 
oEnd)) (kSeq (kDraw 
(dLook (nat_lit 0) [] [] (lkMove g9) p37 
(dLook (nat_lit 1) [] [] (lkMove g37) p38 
(dIf [] (wantT g38) p39 (dLook (nat_lit 2) [] [] (lkMove g7) p39 k6d17) k6d17)))) kRet)))))))⟩
def q29 : OpdF := kC (.func (.func (nat_lit 30)) ⟨[]⟩ ⟨[]⟩)
def q30 : OpdF := kC (.int .i64 (.ofNat (nat_lit 0)))
noncomputable def k7d0 : KD := 
(dLook (nat_lit 41) [] [(nat_lit 4), (nat_lit 38)] (lkPick g68 q6 g103) p104 (dEnd [(nat_lit 63), (nat_lit 64), (nat_lit 65), (nat_lit 66), (nat_lit 67), (nat_lit 68), (nat_lit 69), (nat_lit 70), (nat_lit 71), (nat_lit 72), (nat_lit 73), (nat_lit 74), (nat_lit 75), (nat_lit 76), (nat_lit 77), (nat_lit 78), (nat_lit 79), (nat_lit 80), (nat_lit 81), (nat_lit 82), (nat_lit 83), (nat_lit 84), (nat_lit 85), (nat_lit 86), (nat_lit 87), (nat_lit 88), (nat_lit 89), (nat_lit 90), (nat_lit 91), (nat_lit 92), (nat_lit 93), (nat_lit 94), (nat_lit 95), (nat_lit 96), (nat_lit 97), (nat_lit 98), (nat_lit 99), (nat_lit 100), (nat_lit 101), (nat_lit 102), (nat_lit 103), (nat_lit 104)]))
noncomputable def k7d1 : KD := 
(dIf [(nat_lit 4), (nat_lit 38)] (wantF g68) p103 (dLook (nat_lit 40) [] [(nat_lit 4), (nat_lit 38)] (lkPick g71 g102 q0) p103 k7d0) k7d0)
noncomputable def k7d2 : KD := 
(dIf [(nat_lit 4), (nat_lit 38)] (wantT g71) p102 (dLook (nat_lit 39) [] [(nat_lit 4), (nat_lit 38)] (lkPick g93 q6 g101) p102 k7d1) k7d1)
noncomputable def k7d3 : KD := 
(dIf [(nat_lit 4)] (wantF g93) p101 (dTurn (nat_lit 38) [] [(nat_lit 4)] true (xCall q28 [g94, g100]) p101 k7d2) k7d2)
noncomputable def k7d4 : KD := 
(dIf [(nat_lit 4)] (wantF g93) p100 (dLook (nat_lit 37) [] [(nat_lit 4)] (lkLoad1 g99) p100 k7d3) k7d3)
noncomputable def k7d5 : KD := 
(dIf [(nat_lit 4)] (wantF g93) p99 (dLook (nat_lit 36) [] [(nat_lit 4)] (lkFieldAddr (nat_lit 1) g98) p99 k7d4) k7d4)
noncomputable def k7d6 : KD := 
(dIf [(nat_lit 4)] (wantF g93) p98 (dLook (nat_lit 35) [] [(nat_lit 4)] (lkIxSl (nat_lit 2) g95 g97) p98 k7d5) k7d5)
noncomputable def k7d7 : KD := 
(dIf [(nat_lit 4)] (wantF g93) p97 (dLook (nat_lit 34) [] [(nat_lit 4)] (lkBin .sub g96 q18) p97 k7d6) k7d6)
noncomputable def k7d8 : KD := 
(dIf [(nat_lit 4)] (wantF g93) p96 (dLook (nat_lit 33) [] [(nat_lit 4)] (lkMove g10) p96 k7d7) k7d7)
noncomputable def k7d9 : KD := 
(dIf [(nat_lit 4)] (wantF g93) p95 (dLook (nat_lit 32) [] [(nat_lit 4)] (lkMove g8) p95 k7d8) k7d8)
noncomputable def k7d10 : KD := 
(dIf [(nat_lit 4)] (wantF g93) p94 (dLook (nat_lit 31) [] [(nat_lit 4)] (lkMove g0) p94 k7d9) k7d9)
noncomputable def k7d11 : KD := 
(dIf [(nat_lit 4)] (wantT g71) p93 (dLook (nat_lit 30) [] [(nat_lit 4)] (lkMove g92) p93 k7d10) k7d10)
noncomputable def k7d12 : KD := 
(dIf [(nat_lit 4)] (wantT g71) p92 (dLook (nat_lit 29) [] [(nat_lit 4)] (lkPick g79 q6 g91) p92 k7d11) k7d11)
noncomputable def k7d13 : KD := 
(dIf [(nat_lit 4)] (wantF g79) p91 (dLook (nat_lit 28) [] [(nat_lit 4)] (lkBin .geq g85 g90) p91 k7d12) k7d12)
noncomputable def k7d14 : KD := 
(dIf [(nat_lit 4)] (wantF g79) p90 (dLook (nat_lit 27) [] [(nat_lit 4)] (lkLoad1 g89) p90 k7d13) k7d13)
noncomputable def k7d15 : KD := 
(dIf [(nat_lit 4)] (wantF g79) p89 (dLook (nat_lit 26) [] [(nat_lit 4)] (lkFieldAddr (nat_lit 0) g88) p89 k7d14) k7d14)
noncomputable def k7d16 : KD := 
(dIf [(nat_lit 4)] (wantF g79) p88 (dLook (nat_lit 25) [] [(nat_lit 4)] (lkIxSl (nat_lit 2) g86 g87) p88 k7d15) k7d15)
noncomputable def k7d17 : KD := 
(dIf [(nat_lit 4)] (wantF g79) p87 (dLook (nat_lit 24) [] [(nat_lit 4)] (lkMove g10) p87 k7d16) k7d16)
noncomputable def k7d18 : KD := 
(dIf [(nat_lit 4)] (wantF g79) p86 (dLook (nat_lit 23) [] [(nat_lit 4)] (lkMove g8) p86 k7d17) k7d17)
noncomputable def k7d19 : KD := 
(dIf [(nat_lit 4)] (wantF g79) p85 (dLook (nat_lit 22) [] [(nat_lit 4)] (lkLoad1 g84) p85 k7d18) k7d18)
noncomputable def k7d20 : KD := 
(dIf [(nat_lit 4)] (wantF g79) p84 (dLook (nat_lit 21) [] [(nat_lit 4)] (lkFieldAddr (nat_lit 1) g83) p84 k7d19) k7d19)
noncomputable def k7d21 : KD := 
(dIf [(nat_lit 4)] (wantF g79) p83 (dLook (nat_lit 20) [] [(nat_lit 4)] (lkIxSl (nat_lit 2) g80 g82) p83 k7d20) k7d20)
noncomputable def k7d22 : KD := 
(dIf [(nat_lit 4)] (wantF g79) p82 (dLook (nat_lit 19) [] [(nat_lit 4)] (lkBin .sub g81 q18) p82 k7d21) k7d21)
noncomputable def k7d23 : KD := 
(dIf [(nat_lit 4)] (wantF g79) p81 (dLook (nat_lit 18) [] [(nat_lit 4)] (lkMove g10) p81 k7d22) k7d22)
noncomputable def k7d24 : KD := 
(dIf [(nat_lit 4)] (wantF g79) p80 (dLook (nat_lit 17) [] [(nat_lit 4)] (lkMove g8) p80 k7d23) k7d23)
def q31 : OpdF := kC (.string ⟨⟨[]⟩⟩)
noncomputable def k7d25 : KD := 
(dIf [(nat_lit 4)] (wantT g71) p79 (dLook (nat_lit 16) [] [(nat_lit 4)] (lkMove g78) p79 k7d24) k7d24)
noncomputable def k7d26 : KD := 
(dIf [(nat_lit 4)] (wantT g71) p78 (dLook (nat_lit 15) [] [(nat_lit 4)] (lkEq false .str g77 q31) p78 k7d25) k7d25)
noncomputable def k7d27 : KD := 
(dIf [(nat_lit 4)] (wantT g71) p77 (dLook (nat_lit 14) [] [(nat_lit 4)] (lkLoad1 g76) p77 k7d26) k7d26)
noncomputable def k7d28 : KD := 
(dIf [(nat_lit 4)] (wantT g71) p76 (dLook (nat_lit 13) [] [(nat_lit 4)] (lkFieldAddr (nat_lit 1) g75) p76 k7d27) k7d27)
noncomputable def k7d29 : KD := 
(dIf [(nat_lit 4)] (wantT g71) p75 (dLook (nat_lit 12) [] [(nat_lit 4)] (lkIxSl (nat_lit 2) g72 g74) p75 k7d28) k7d28)
noncomputable def k7d30 : KD := 
(dIf [(nat_lit 4)] (wantT g71) p74 (dLook (nat_lit 11) [] [(nat_lit 4)] (lkBin .sub g73 q18) p74 k7d29) k7d29)
noncomputable def k7d31 : KD := 
(dIf [(nat_lit 4)] (wantT g71) p73 (dLook (nat_lit 10) [] [(nat_lit 4)] (lkMove g10) p73 k7d30) k7d30)
noncomputable def k7d32 : KD := 
(dIf [(nat_lit 4)] (wantT g71) p72 (dLook (nat_lit 9) [] [(nat_lit 4)] (lkMove g8) p72 k7d31) k7d31)
noncomputable def k7d33 : KD := 
(dIf [(nat_lit 4)] (wantF g68) p71 (dLook (nat_lit 8) [] [(nat_lit 4)] (lkMove g70) p71 k7d32) k7d32)
noncomputable def k7d34 : KD := 
(dIf [(nat_lit 4)] (wantF g68) p70 (dLook (nat_lit 7) [] [(nat_lit 4)] (lkBin .gtr g69 q30) p70 k7d33) k7d33)
noncomputable def k7 : KFun := ⟨[rTmp (nat_lit 6) g6], (kSeq (oSet (xMove q0) p6 
oEnd) (kSeq (oSet (xCall q1 []) p12 
(oSet (xMove g12) p7 
oEnd)) (kSeq (kSeq (oSet (xMove g0) p13 
(oSet (xCall q3 [g13, q19]) p14 
(oSet (xMove g14) p15 
(oSetIf (wantF g15) (xMove g1) p16 
(oSetIf (wantF g15) (xLook (lkLen .str g16)) p17 
(oSetIf (wantF g15) (xLook (lkBin .gtr g17 q5)) p18 
(oSet (xLook (lkPick g15 q6 g18)) p19 
oEnd))))))) (kCond g19 (kSeq (oSet (xMove g7) p20 
(oSet (xMove g20) p6 
oEnd)) kRet) kSkip)) (kSeq (oSet (xMove g0) p21 
(oSet (xCall q21 [g21]) p22 
(oSet (xMove g22) p8 
oEnd))) (kSeq (oSet (xMove g2) p23 
(oSet (xMove g0) p24 
(oSet (xLook (lkLen .sl g24)) p25 
(oSet (xLook (lkBin .add g25 q18)) p26 
(oSet (xCall q29 [g23, g26]) p27 
(oSet (xMove g27) p2 
oEnd)))))) (kSeq (kDraw 
(dLook (nat_lit 0) [] [] (lkMove g0) p28 
(dLook (nat_lit 1) [] [] (lkMove g2) p29 
(dLook (nat_lit 2) [] [] (lkSliceSl (nat_lit 2) g28 (some g29) none none) p30 
(dTurn (nat_lit 3) [] [] true (xCall q20 [g30]) p31 
(dLook (nat_lit 4) [] [] (lkMove g0) p32 
(dLook (nat_lit 5) [] [] (lkMove g2) p33 
(dLook (nat_lit 6) [] [] (lkSliceSl (nat_lit 2) g32 none (some g33) none) p34 
(dTurn (nat_lit 7) [] [(nat_lit 3)] true (xTurn (tnAppend (nat_lit 2) g31 g34)) p35 
(dLook (nat_lit 8) [] [(nat_lit 3), (nat_lit 7)] (lkMove g35) p9 (dEnd [(nat_lit 28), (nat_lit 29), (nat_lit 30), (nat_lit 31), (nat_lit 32), (nat_lit 33), (nat_lit 34), (nat_lit 35), (nat_lit 9)]))))))))))) (kSeq (kSeq (oSet (xMove g8) p36 
(oSet (xMove g1) p37 
(oSet (xCall q28 [g36, g37]) p38 
(oSet (xMove g0) p39 
(oSet (xMove g1) p40 
(oSet (xCall q28 [g39, g40]) p41 
(oSet (xLook (lkEq true .bool g38 g41)) p42 
(oSet (xMove g42) p43 
(oSetIf (wantF g43) (xMove g8) p44 
(oSetIf (wantF g43) (xCall q21 [g44]) p45 
(oSetIf (wantF g43) (xMove g8) p46 
(oSetIf (wantF g43) (xCall q23 [g45, g46]) p47 
(oSetIf (wantF g43) (xLook (lkUn .not g47)) p48 
(oSet (xLook (lkPick g43 q6 g48)) p49 
(oSet (xMove g49) p50 
(oSetIf (wantF g50) (xMove g9) p51 
(oSetIf (wantF g50) (xCall q21 [g51]) p52 
(oSetIf (wantF g50) (xMove g8) p53 
(oSetIf (wantF g50) (xCall q23 [g52, g53]) p54 
(oSetIf (wantF g50) (xLook (lkUn .not g54)) p55 
(oSet (xLook (lkPick g50 q6 g55)) p56 
oEnd))))))))))))))))))))) (kCond g56 (kSeq (oSet (xMove q0) p6 
oEnd) kRet) kSkip)) (kSeq (kSeq (oSet (xMove q30) p10 
oEnd) (kBlock (nat_lit 0) (kLoop (kSeq (kSeq (oSet (xMove g10) p57 
(oSet (xMove g8) p58 
(oSet (xLook (lkLen .sl g58)) p59 
(oSet (xLook (lkBin .lss g57 g59)) p60 
oEnd)))) (kCond g60 kSkip (kExit (nat_lit 0)))) (kSeq (kBlock (nat_lit 1) (kSeq (kDraw 
(dLook (nat_lit 0) [] [] (lkMove g8) p63 
(dLook (nat_lit 1) [] [] (lkMove g10) p64 
(dLook (nat_lit 2) [] [] (lkIxSl (nat_lit 2) g63 g64) p65 
(dLook (nat_lit 3) [] [] (lkLoadN (nat_lit 2) g65) p66 
(dTurn (nat_lit 4) [] [] true (xCall q9 [g66]) p67 
(dLook (nat_lit 5) [] [(nat_lit 4)] (lkMove g67) p68 
(dIf [(nat_lit 4)] (wantF g68) p69 (dLook (nat_lit 6) [] [(nat_lit 4)] (lkMove g10) p69 k7d34) k7d34)))))))) (kCond g104 (kSeq (oSet (xMove q0) p6 
oEnd) kRet) kSkip))) (oSet (xMove g10) p61 
(oSet (xLook (lkBin .add g61 q18)) p62 
(oSet (xMove g62) p10 
oEnd)))))))) (kSeq (kSeq (oSet (xMove q30) p11 
oEnd) (kBlock (nat_lit 2) (kLoop (kSeq (kSeq (oSet (xMove g11) p105 
(oSet (xMove g0) p106 
(oSet (xLook (lkLen .sl g106)) p107 
(oSet (xLook (lkBin .lss g105 g107)) p108 
oEnd)))) (kCond g108 kSkip (kExit (nat_lit 2)))) (kSeq (kBlock (nat_lit 3) (kSeq (oSet (xMove g8) p111 
(oSet (xMove g0) p112 
(oSet (xMove g11) p113 
(oSet (xLook (lkIxSl (nat_lit 2) g112 g113)) p114 
(oSet (xLook (lkLoadN (nat_lit 2) g114)) p115 
(oSet (xCall q26 [g111, g115]) p116 
(oSet (xLook (lkUn .not g116)) p117 
(oSet (xMove g117) p118 
(oSetIf (wantF g118) (xMove g0) p119 
(oSetIf (wantF g118) (xMove g0) p120 
(oSetIf (wantF g118) (xMove g11) p121 
(oSetIf (wantF g118) (xLook (lkIxSl (nat_lit 2) g120 g121)) p122 
(oSetIf (wantF g118) (xLook (lkLoadN (nat_lit 2) g122)) p123 
(oSetIf (wantF g118) (xCall q26 [g119, g123]) p124 
(oSetIf (wantF g118) (xLook (lkUn .not g124)) p125 
(oSet (xLook (lkPick g118 q6 g125)) p126 
(oSet (xMove g126) p127 
(oSetIf (wantF g127) (xMove g0) p128 
(oSetIf (wantF g127) (xMove g11) p129 
(oSetIf (wantF g127) (xLook (lkIxSl (nat_lit 2) g128 g129)) p130 
(oSetIf (wantF g127) (xLook (lkLoadN (nat_lit 2) g130)) p131 
(oSetIf (wantF g127) (xCall q9 [g131]) p132 
(oSetIf (wantF g127) (xLook (lkUn .not g132)) p133 
(oSetIf (wantF g127) (xMove g133) p134 
(oSetIf (wantT g134) (xMove g8) p135 
(oSetIf (wantT g134) (xMove g0) p136 
(oSetIf (wantT g134) (xMove g11) p137 
(oSetIf (wantT g134) (xLook (lkIxSl (nat_lit 2) g136 g137)) p138 
(oSetIf (wantT g134) (xLook (lkFieldAddr (nat_lit 0) g138)) p139 
(oSetIf (wantT g134) (xLook (lkLoad1 g139)) p140 
(oSetIf (wantT g134) (xCall q28 [g135, g140]) p141 
(oSetIf (wantT g134) (xLook (lkUn .not g141)) p142 
(oSetIf (wantF g127) (xLook (lkPick g134 g142 q0)) p143 
(oSet (xLook (lkPick g127 q6 g143)) p144 
oEnd)))))))))))))))))))))))))))))))))) (kCond g144 (kSeq (oSet (xMove q0) p6 
oEnd) kRet) kSkip))) (oSet (xMove g11) p109 
(oSet (xLook (lkBin .add g109 q18)) p110 
(oSet (xMove g110) p11 
oEnd)))))))) (kSeq (oSet (xMove g7) p145 
(oSet (xMove g145) p6 
oEnd)) kRet))))))))))⟩
def q32 : OpdF := kC (.func (.func (nat_lit 31)) ⟨[]⟩ ⟨[]⟩)
def q33 : OpdF := kC (.string ⟨⟨[98]⟩⟩)
def q34 : OpdF := kC (.string ⟨⟨[100]⟩⟩)
def q35 : OpdF := kC (.string ⟨⟨[97]⟩⟩)
def q36 : OpdF := kC (.string ⟨⟨[99]⟩⟩)
def q37 : OpdF := kC (.string ⟨⟨[101]⟩⟩)
def q38 : OpdF := kC (.string ⟨⟨[102]⟩⟩)
def q39 : List Value := [(.string ⟨⟨[]⟩⟩), (.string ⟨⟨[]⟩⟩), (.string ⟨⟨[]⟩⟩), (.string ⟨⟨[]⟩⟩), (.string ⟨⟨[]⟩⟩), (.string ⟨⟨[]⟩⟩), (.string ⟨⟨[]⟩⟩), (.string ⟨⟨[]⟩⟩), (.string ⟨⟨[]⟩⟩), (.string ⟨⟨[]⟩⟩)]
noncomputable def k9 : KFun := ⟨[rTmp (nat_lit 0) g0], (kSeq (oSet (xMove q0) p0 
oEnd) (kSeq (oSet (xCall q32 [q33, q34]) p1 
(oSet (xCall q8 [g1, q33]) p2 
(oSet (xMove g2) p3 
(oSetIf (wantT g3) (xCall q32 [q33, q33]) p4 
(oSetIf (wantT g3) (xCall q9 [g4]) p5 
(oSet (xLook (lkPick g3 g5 q0)) p6 
(oSet (xMove g6) p7 
(oSetIf (wantT g7) (xCall q32 [q35, q36]) p8 
(oSetIf (wantT g7) (xCall q32 [q33, q34]) p9 
(oSetIf (wantT g7) (xCall q7 [g8, g9]) p10 
(oSet (xLook (lkPick g7 g10 q0)) p11 
(oSet (xMove g11) p12 
(oSetIf (wantT g12) (xCall q32 [q36, q34]) p13 
(oSetIf (wantT g12) (xCall q32 [q35, q33]) p14 
(oSetIf (wantT g12) (xCall q32 [q33, q36]) p15 
(oSetIf (wantT g12) (xCall q32 [q37, q37]) p16 
(oSetIf (wantT g12) (xCall q32 [q38, q31]) p17 
(oSetIf (wantT g12) (xTurn (tnBuildSlice q39 [((nat_lit 0), (nat_lit 2), g13), ((nat_lit 2), (nat_lit 2), g14), ((nat_lit 4), (nat_lit 2), g15), ((nat_lit 6), (nat_lit 2), g16), ((nat_lit 8), (nat_lit 2), g17)] (nat_lit 5))) p18 
(oSetIf (wantT g12) (xCall q21 [g18]) p19 
(oSetIf (wantT g12) (xCall q32 [q35, q34]) p20 
(oSetIf (wantT g12) (xCall q32 [q38, q31]) p21 
(oSetIf (wantT g12) (xTurn (tnBuildSlice q2 [((nat_lit 0), (nat_lit 2), g20), ((nat_lit 2), (nat_lit 2), g21)] (nat_lit 2))) p22 
(oSetIf (wantT g12) (xCall q23 [g19, g22]) p23 
(oSet (xLook (lkPick g12 g23 q0)) p24 
(oSet (xMove g24) p0 
oEnd))))))))))))))))))))))))) kRet))⟩
noncomputable def k10 : KFun := ⟨[rTmp (nat_lit 4) g4], (kSeq (oSet (xMove q0) p4 
oEnd) (kSeq (kSeq (oSet (xMove q30) p5 
oEnd) (kBlock (nat_lit 0) (kLoop (kSeq (kSeq (oSet (xMove g5) p6 
(oSet (xMove g0) p7 
(oSet (xLook (lkLen .sl g7)) p8 
(oSet (xLook (lkBin .lss g6 g8)) p9 
(oSet (xMove g9) p10 
(oSetIf (wantT g10) (xMove g5) p11 
(oSetIf (wantT g10) (xMove g1) p12 
(oSetIf (wantT g10) (xLook (lkBin .leq g11 g12)) p13 
(oSet (xLook (lkPick g10 g13 q0)) p14 
oEnd))))))))) (kCond g14 kSkip (kExit (nat_lit 0)))) (kSeq (kBlock (nat_lit 1) (kSeq (oSet (xMove g0) p17 
(oSet (xMove g5) p18 
(oSet (xLook (lkIxSl (nat_lit 2) g17 g18)) p19 
(oSet (xLook (lkFieldAddr (nat_lit 0) g19)) p20 
(oSet (xLook (lkLoad1 g20)) p21 
(oSet (xLook (lkLen .str g21)) p22 
(oSet (xLook (lkBin .gtr g22 q5)) p23 
(oSet (xMove g23) p24 
(oSetIf (wantF g24) (xMove g0) p25 
(oSetIf (wantF g24) (xMove g5) p26 
(oSetIf (wantF g24) (xLook (lkIxSl (nat_lit 2) g25 g26)) p27 
(oSetIf (wantF g24) (xLook (lkFieldAddr (nat_lit 1) g27)) p28 
(oSetIf (wantF g24) (xLook (lkLoad1 g28)) p29 
(oSetIf (wantF g24) (xLook (lkLen .str g29)) p30 
(oSetIf (wantF g24) (xLook (lkBin .gtr g30 q5)) p31 
(oSet (xLook (lkPick g24 q6 g31)) p32 
oEnd)))))))))))))))) (kCond g32 (kSeq (oSet (xMove q6) p4 
oEnd) kRet) kSkip))) (oSet (xMove g5) p15 
(oSet (xLook (lkBin .add g15 q18)) p16 
(oSet (xMove g16) p5 
oEnd)))))))) (kSeq (oSet (xMove g0) p33 
(oSet (xLook (lkLen .sl g33)) p34 
(oSet (xMove g1) p35 
(oSet (xLook (lkBin .gtr g34 g35)) p36 
(oSet (xMove g36) p4 
oEnd))))) kRet)))⟩
noncomputable def k11 : KFun := ⟨[rTmp (nat_lit 4) g4], (kSeq (oSet (xTurn (tnBox g0)) p2 
(oSet (xTurn (tnBox g1)) p3 
(oSet (xMove q0) p4 
oEnd))) (kSeq (oSet (xLook (lkFieldAddr (nat_lit 0) g2)) p6 
(oSet (xLook (lkLoad1 g6)) p7 
(oSet (xLook (lkFieldAddr (nat_lit 0) g3)) p8 
(oSet (xLook (lkLoad1 g8)) p9 
(oSet (xLook (lkMax g7 [g9])) p10 
(oSet (xMove g10) p5 
oEnd)))))) (kSeq (oSet (xLook (lkLoadN (nat_lit 2) g2)) p11 
(oSet (xMove g5) p12 
(oSet (xCall q8 [g11, g12]) p13 
(oSet (xMove g13) p14 
(oSetIf (wantT g14) (xLook (lkLoadN (nat_lit 2) g3)) p15 
(oSetIf (wantT g14) (xMove g5) p16 
(oSetIf (wantT g14) (xCall q8 [g15, g16]) p17 
(oSet (xLook (lkPick g14 g17 q0)) p18 
(oSet (xMove g18) p4 
oEnd))))))))) kRet)))⟩
def q40 : OpdF := kC (.func (.func (nat_lit 32)) ⟨[]⟩ ⟨[]⟩)
noncomputable def k12 : KFun := ⟨[rTmp (nat_lit 4) g4], (kSeq (oSet (xTurn (tnBox g0)) p2 
(oSet (xMove q0) p4 
oEnd)) (kSeq (oSet (xMove g1) p5 
(oSet (xLook (lkFieldAddr (nat_lit 0) g2)) p6 
(oSet (xLook (lkLoad1 g6)) p7 
(oSet (xLook (lkBin .geq g5 g7)) p8 
(oSet (xMove g8) p9 
(oSetIf (wantT g9) (xLook (lkLoadN (nat_lit 2) g2)) p10 
(oSetIf (wantT g9) (xLook (lkBuild q17 [((nat_lit 0), (nat_lit 2), g10)])) p11 
(oSetIf (wantT g9) (xMove g1) p12 
(oSetIf (wantT g9) (xCall q40 [g11, g12]) p13 
(oSet (xLook (lkPick g9 g13 q0)) p14 
(oSet (xMove g14) p4 
oEnd))))))))))) kRet))⟩
noncomputable def k13 : KFun := ⟨[rTmp (nat_lit 2) g2], (kSeq (oSet (xTurn (tnBox g0)) p1 
(oSet (xMove q0) p2 
oEnd)) (kSeq (oSet (xLook (lkLoadN (nat_lit 2) g1)) p3 
(oSet (xLook (lkBuild q17 [((nat_lit 0), (nat_lit 2), g3)])) p4 
(oSet (xLook (lkFieldAddr (nat_lit 0) g1)) p5 
(oSet (xLook (lkLoad1 g5)) p6 
(oSet (xCall q40 [g4, g6]) p7 
(oSet (xLook (lkUn .not g7)) p8 
(oSet (xMove g8) p2 
oEnd))))))) kRet))⟩
noncomputable def k14 : KFun := ⟨[rTmp (nat_lit 4) g4], (kSeq (oSet (xTurn (tnBox g0)) p2 
(oSet (xMove q0) p4 
oEnd)) (kSeq (oSet (xMove g1) p5 
(oSet (xLook (lkFieldAddr (nat_lit 0) g2)) p6 
(oSet (xLook (lkLoad1 g6)) p7 
(oSet (xLook (lkBin .geq g5 g7)) p8 
(oSet (xMove g8) p9 
(oSetIf (wantT g9) (xLook (lkFieldAddr (nat_lit 1) g2)) p10 
(oSetIf (wantT g9) (xLook (lkLoad1 g10)) p11 
(oSetIf (wantT g9) (xLook (lkEq false .str g11 q31)) p12 
(oSetIf (wantT g9) (xMove g12) p13 
(oSetIf (wantF g13) (xMove g1) p14 
(oSetIf (wantF g13) (xLook (lkFieldAddr (nat_lit 1) g2)) p15 
(oSetIf (wantF g13) (xLook (lkLoad1 g15)) p16 
(oSetIf (wantF g13) (xLook (lkBin .lss g14 g16)) p17 
(oSetIf (wantT g9) (xLook (lkPick g13 q6 g17)) p18 
(oSet (xLook (lkPick g9 g18 q0)) p19 
(oSet (xMove g19) p4 
oEnd)))))))))))))))) kRet))⟩
noncomputable def k15 : KFun := ⟨[rTmp (nat_lit 2) g2], (kSeq (oSet (xTurn (tnBox g0)) p1 
(oSet (xMove q0) p2 
oEnd)) (kSeq (oSet (xLook (lkFieldAddr (nat_lit 1) g1)) p3 
(oSet (xLook (lkLoad1 g3)) p4 
(oSet (xLook (lkEq true .str g4 q31)) p5 
(oSet (xMove g5) p6 
(oSetIf (wantT g6) (xLook (lkFieldAddr (nat_lit 1) g1)) p7 
(oSetIf (wantT g6) (xLook (lkLoad1 g7)) p8 
(oSetIf (wantT g6) (xLook (lkFieldAddr (nat_lit 0) g1)) p9 
(oSetIf (wantT g6) (xLook (lkLoad1 g9)) p10 
(oSetIf (wantT g6) (xLook (lkBin .leq g8 g10)) p11 
(oSet (xLook (lkPick g6 g11 q0)) p12 
(oSet (xMove g12) p2 
oEnd))))))))))) kRet))⟩
def q41 : OpdF := kC (.func (.func (nat_lit 33)) ⟨[]⟩ ⟨[]⟩)
noncomputable def k16 : KFun := ⟨[rTmp (nat_lit 4) g4], (kSeq (oSet (xTurn (tnBox g0)) p2 
(oSet (xTurn (tnBox g1)) p3 
(oSet (xMove q0) p4 
oEnd))) (kSeq (kDraw 
(dLook (nat_lit 0) [] [] (lkFieldAddr (nat_lit 0) g2) p5 
(dLook (nat_lit 1) [] [] (lkLoad1 g5) p6 
(dLook (nat_lit 2) [] [] (lkFieldAddr (nat_lit 0) g3) p7 
(dLook (nat_lit 3) [] [] (lkLoad1 g7) p8 
(dLook (nat_lit 4) [] [] (lkMax g6 [g8]) p9 
(dLook (nat_lit 5) [] [] (lkFieldAddr (nat_lit 1) g2) p10 
(dLook (nat_lit 6) [] [] (lkLoad1 g10) p11 
(dLook (nat_lit 7) [] [] (lkFieldAddr (nat_lit 1) g3) p12 
(dLook (nat_lit 8) [] [] (lkLoad1 g12) p13 
(dTurn (nat_lit 9) [(nat_lit 1), (nat_lit 3)] [] true (xCall q41 [g11, g13]) p14 
(dLook (nat_lit 10) [] [(nat_lit 9)] (lkBuild q17 [((nat_lit 0), (nat_lit 1), g9), ((nat_lit 1), (nat_lit 1), g14)]) p15 
(dTurn (nat_lit 11) [] [(nat_lit 9)] true (xCall q15 [g15]) p16 
(dLook (nat_lit 12) [] [(nat_lit 9), (nat_lit 11)] (lkUn .not g16) p17 
(dLook (nat_lit 13) [] [(nat_lit 9), (nat_lit 11)] (lkMove g17) p4 (dEnd [(nat_lit 5), (nat_lit 6), (nat_lit 7), (nat_lit 8), (nat_lit 9), (nat_lit 10), (nat_lit 11), (nat_lit 12), (nat_lit 13), (nat_lit 14), (nat_lit 15), (nat_lit 16), (nat_lit 17), (nat_lit 4)])))))))))))))))) kRet))⟩
def q42 : OpdF := kC (.string ⟨⟨[0]⟩⟩)
noncomputable def k17 : KFun := ⟨[rCellN (nat_lit 2) g2 (nat_lit 2)], (kSeq (oSet (xTurn (tnAlloc q17)) p2 
oEnd) (kSeq (oSet (xMove g0) p3 
(oSet (xMove g0) p4 
(oSet (xLook (lkBin .add g4 q42)) p5 
(oSet (xLook (lkBuild q17 [((nat_lit 0), (nat_lit 1), g3), ((nat_lit 1), (nat_lit 1), g5)])) p6 
(oDo (xTurn (tnStore (nat_lit 2) g2 g6)) 
oEnd))))) kRet))⟩
noncomputable def k18 : KFun := ⟨[rCellN (nat_lit 2) g2 (nat_lit 2)], (kSeq (oSet (xTurn (tnAlloc q17)) p2 
oEnd) (kSeq (oSet (xMove g0) p3 
(oSet (xMove g0) p4 
(oSet (xLook (lkBin .add g4 q42)) p5 
(oSet (xLook (lkBuild q17 [((nat_lit 0), (nat_lit 1), g3), ((nat_lit 1), (nat_lit 1), g5)])) p6 
(oDo (xTurn (tnStore (nat_lit 2) g2 g6)) 
oEnd))))) kRet))⟩
noncomputable def k19 : KFun := ⟨[rCellN (nat_lit 4) g4 (nat_lit 2)], (kSeq (oSet (xTurn (tnBox g0)) p2 
(oSet (xTurn (tnAlloc q17)) p4 
oEnd)) (kSeq (kSeq (oSet (xMove g1) p6 
(oSet (xCall q13 [g6]) p7 
(oSet (xLook (lkField1 (nat_lit 1) g7)) p8 
(oSet (xMove g8) p5 
oEnd)))) (kSeq (oSet (xLook (lkLoadN (nat_lit 2) g2)) p9 
(oSet (xLook (lkBuild q17 [((nat_lit 0), (nat_lit 2), g9)])) p10 
(oSet (xMove g5) p11 
(oSet (xCall q40 [g10, g11]) p12 
oEnd)))) (kCond g12 (oSet (xMove g5) p13 
(oSet (xLook (lkFieldAddr (nat_lit 1) g2)) p14 
(oDo (xTurn (tnStore (nat_lit 1) g14 g13)) 
oEnd))) kSkip))) (kSeq (oSet (xLook (lkLoadN (nat_lit 2) g2)) p15 
(oDo (xTurn (tnStore (nat_lit 2) g4 g15)) 
oEnd)) kRet)))⟩
noncomputable def k20 : KFun := ⟨[rCellN (nat_lit 4) g4 (nat_lit 2)], (kSeq (oSet (xTurn (tnBox g0)) p2 
(oSet (xTurn (tnAlloc q17)) p4 
oEnd)) (kSeq (kDraw 
(dLook (nat_lit 0) [] [] (lkFieldAddr (nat_lit 0) g2) p5 
(dLook (nat_lit 1) [] [] (lkLoad1 g5) p6 
(dLook (nat_lit 2) [] [] (lkFieldAddr (nat_lit 1) g2) p7 
(dLook (nat_lit 3) [] [] (lkLoad1 g7) p8 
(dLook (nat_lit 4) [] [] (lkMove g1) p9 
(dLook (nat_lit 5) [] [] (lkBin .add g9 q42) p10 
(dTurn (nat_lit 6) [(nat_lit 1)] [] true (xCall q41 [g8, g10]) p11 
(dLook (nat_lit 7) [] [(nat_lit 6)] (lkBuild q17 [((nat_lit 0), (nat_lit 1), g6), ((nat_lit 1), (nat_lit 1), g11)]) p12 
(dTurn (nat_lit 8) [] [(nat_lit 6)] true (xTurn (tnStore (nat_lit 2) g4 g12)) noDst (dEnd [(nat_lit 5), (nat_lit 6), (nat_lit 7), (nat_lit 8), (nat_lit 9), (nat_lit 10), (nat_lit 11), (nat_lit 12)]))))))))))) kRet))⟩
def q43 : OpdF := kC (.slice none (nat_lit 0) (nat_lit 0))
noncomputable def k21 : KFun := ⟨[rTmp (nat_lit 2) g2], (kSeq (oSet (xMove q43) p2 
oEnd) (kSeq (oSet (xTurn (tnBuildSlice [] [] (nat_lit 0))) p3 
(oSet (xMove g0) p4 
(oSet (xTurn (tnAppend (nat_lit 2) g3 g4)) p5 
(oSet (xMove g5) p2 
oEnd)))) kRet))⟩
def q44 : OpdF := kC (.func (.func (nat_lit 34)) ⟨[]⟩ ⟨[]⟩)
noncomputable def k22 : KFun := ⟨[rTmp (nat_lit 2) g2], (kSeq (oSet (xMove q43) p2 
oEnd) (kSeq (oSet (xMove g0) p3 
(oSet (xCall q44 [g3]) p4 
(oSet (xMove g4) p2 
oEnd))) kRet))⟩
noncomputable def k23 : KFun := ⟨[rTmp (nat_lit 4) g4], (kSeq (oSet (xMove q0) p4 
oEnd) (kSeq (kSeq (oSet (xMove g0) p6 
(oSet (xLook (lkLen .sl g6)) p7 
(oSet (xMove g1) p8 
(oSet (xLook (lkLen .sl g8)) p9 
(oSet (xLook (lkEq true .int g7 g9)) p10 
oEnd))))) (kCond g10 (kSeq (oSet (xMove q0) p4 
oEnd) kRet) kSkip)) (kSeq (kSeq (oSet (xMove q30) p5 
oEnd) (kBlock (nat_lit 0) (kLoop (kSeq (kSeq (oSet (xMove g5) p11 
(oSet (xMove g0) p12 
(oSet (xLook (lkLen .sl g12)) p13 
(oSet (xLook (lkBin .lss g11 g13)) p14 
oEnd)))) (kCond g14 kSkip (kExit (nat_lit 0)))) (kSeq (kBlock (nat_lit 1) (kSeq (kDraw 
(dLook (nat_lit 0) [] [] (lkMove g0) p17 
(dLook (nat_lit 1) [] [] (lkMove g5) p18 
(dLook (nat_lit 2) [] [] (lkIxSl (nat_lit 2) g17 g18) p19 
(dLook (nat_lit 3) [] [] (lkLoadN (nat_lit 2) g19) p20 
(dLook (nat_lit 4) [] [] (lkMove g1) p21 
(dLook (nat_lit 5) [] [] (lkMove g5) p22 
(dLook (nat_lit 6) [] [] (lkIxSl (nat_lit 2) g21 g22) p23 
(dLook (nat_lit 7) [] [] (lkLoadN (nat_lit 2) g23) p24 
(dLook (nat_lit 8) [] [] (lkEq true (.flat [.str, .str]) g20 g24) p25 (dEnd [(nat_lit 17), (nat_lit 18), (nat_lit 19), (nat_lit 20), (nat_lit 21), (nat_lit 22), (nat_lit 23), (nat_lit 24), (nat_lit 25)]))))))))))) (kCond g25 (kSeq (oSet (xMove q0) p4 
oEnd) kRet) kSkip))) (oSet (xMove g5) p15 
(oSet (xLook (lkBin .add g15 q18)) p16 
(oSet (xMove g16) p5 
oEnd)))))))) (kSeq (oSet (xMove q6) p4 
oEnd) kRet))))⟩
def q45 : OpdF := kC (.func (.func (nat_lit 35)) ⟨[]⟩ ⟨[]⟩)
noncomputable def k24d0 : KD := 
(dLook (nat_lit 22) [] [] (lkPick g20 q6 g39) p40 (dEnd [(nat_lit 18), (nat_lit 19), (nat_lit 20), (nat_lit 21), (nat_lit 22), (nat_lit 23), (nat_lit 24), (nat_lit 25), (nat_lit 26), (nat_lit 27), (nat_lit 28), (nat_lit 29), (nat_lit 30), (nat_lit 31), (nat_lit 32), (nat_lit 33), (nat_lit 34), (nat_lit 35), (nat_lit 36), (nat_lit 37), (nat_lit 38), (nat_lit 39), (nat_lit 40)]))
noncomputable def k24d1 : KD := 
(dIf [] (wantF g20) p39 (dLook (nat_lit 21) [] [] (lkPick g27 g38 q0) p39 k24d0) k24d0)
noncomputable def k24d2 : KD := 
(dIf [] (wantT g27) p38 (dLook (nat_lit 20) [] [] (lkBin .lss g32 g37) p38 k24d1) k24d1)
noncomputable def k24d3 : KD := 
(dIf [] (wantT g27) p37 (dLook (nat_lit 19) [] [] (lkLoad1 g36) p37 k24d2) k24d2)
noncomputable def k24d4 : KD := 
(dIf [] (wantT g27) p36 (dLook (nat_lit 18) [] [] (lkFieldAddr (nat_lit 0) g35) p36 k24d3) k24d3)
noncomputable def k24d5 : KD := 
(dIf [] (wantT g27) p35 (dLook (nat_lit 17) [] [] (lkIxSl (nat_lit 2) g33 g34) p35 k24d4) k24d4)
noncomputable def k24d6 : KD := 
(dIf [] (wantT g27) p34 (dLook (nat_lit 16) [] [] (lkMove g5) p34 k24d5) k24d5)
noncomputable def k24d7 : KD := 
(dIf [] (wantT g27) p33 (dLook (nat_lit 15) [] [] (lkMove g3) p33 k24d6) k24d6)
noncomputable def k24d8 : KD := 
(dIf [] (wantT g27) p32 (dLook (nat_lit 14) [] [] (lkLoad1 g31) p32 k24d7) k24d7)
noncomputable def k24d9 : KD := 
(dIf [] (wantT g27) p31 (dLook (nat_lit 13) [] [] (lkFieldAddr (nat_lit 1) g30) p31 k24d8) k24d8)
noncomputable def k24d10 : KD := 
(dIf [] (wantT g27) p30 (dLook (nat_lit 12) [] [] (lkIxSl (nat_lit 2) g28 g29) p30 k24d9) k24d9)
noncomputable def k24d11 : KD := 
(dIf [] (wantT g27) p29 (dLook (nat_lit 11) [] [] (lkMove g6) p29 k24d10) k24d10)
noncomputable def k24d12 : KD := 
(dIf [] (wantT g27) p28 (dLook (nat_lit 10) [] [] (lkMove g4) p28 k24d11) k24d11)
noncomputable def k24d13 : KD := 
(dIf [] (wantF g20) p27 (dLook (nat_lit 9) [] [] (lkMove g26) p27 k24d12) k24d12)
noncomputable def k24d14 : KD := 
(dIf [] (wantF g20) p26 (dLook (nat_lit 8) [] [] (lkEq true .str g25 q31) p26 k24d13) k24d13)
noncomputable def k24d15 : KD := 
(dIf [] (wantF g20) p25 (dLook (nat_lit 7) [] [] (lkLoad1 g24) p25 k24d14) k24d14)
noncomputable def k24d16 : KD := 
(dIf [] (wantF g20) p24 (dLook (nat_lit 6) [] [] (lkFieldAddr (nat_lit 1) g23) p24 k24d15) k24d15)
noncomputable def k24d17 : KD := 
(dIf [] (wantF g20) p23 (dLook (nat_lit 5) [] [] (lkIxSl (nat_lit 2) g21 g22) p23 k24d16) k24d16)
noncomputable def k24d18 : KD := 
(dIf [] (wantF g20) p22 (dLook (nat_lit 4) [] [] (lkMove g6) p22 k24d17) k24d17)
noncomputable def k24d19 : KD := 
(dLook (nat_lit 26) [] [] (lkPick g54 g73 q0) p74 (dEnd [(nat_lit 48), (nat_lit 49), (nat_lit 50), (nat_lit 51), (nat_lit 52), (nat_lit 53), (nat_lit 54), (nat_lit 55), (nat_lit 56), (nat_lit 57), (nat_lit 58), (nat_lit 59), (nat_lit 60), (nat_lit 61), (nat_lit 62), (nat_lit 63), (nat_lit 64), (nat_lit 65), (nat_lit 66), (nat_lit 67), (nat_lit 68), (nat_lit 69), (nat_lit 70), (nat_lit 71), (nat_lit 72), (nat_lit 73), (nat_lit 74)]))
noncomputable def k24d20 : KD := 
(dIf [] (wantT g54) p73 (dLook (nat_lit 25) [] [] (lkPick g61 q6 g72) p73 k24d19) k24d19)
noncomputable def k24d21 : KD := 
(dIf [] (wantF g61) p72 (dLook (nat_lit 24) [] [] (lkBin .gtr g66 g71) p72 k24d20) k24d20)
noncomputable def k24d22 : KD := 
(dIf [] (wantF g61) p71 (dLook (nat_lit 23) [] [] (lkLoad1 g70) p71 k24d21) k24d21)
noncomputable def k24d23 : KD := 
(dIf [] (wantF g61) p70 (dLook (nat_lit 22) [] [] (lkFieldAddr (nat_lit 1) g69) p70 k24d22) k24d22)
noncomputable def k24d24 : KD := 
(dIf [] (wantF g61) p69 (dLook (nat_lit 21) [] [] (lkIxSl (nat_lit 2) g67 g68) p69 k24d23) k24d23)
noncomputable def k24d25 : KD := 
(dIf [] (wantF g61) p68 (dLook (nat_lit 20) [] [] (lkMove g6) p68 k24d24) k24d24)
noncomputable def k24d26 : KD := 
(dIf [] (wantF g61) p67 (dLook (nat_lit 19) [] [] (lkMove g4) p67 k24d25) k24d25)
noncomputable def k24d27 : KD := 
(dIf [] (wantF g61) p66 (dLook (nat_lit 18) [] [] (lkLoad1 g65) p66 k24d26) k24d26)
noncomputable def k24d28 : KD := 
(dIf [] (wantF g61) p65 (dLook (nat_lit 17) [] [] (lkFieldAddr (nat_lit 1) g64) p65 k24d27) k24d27)
noncomputable def k24d29 : KD := 
(dIf [] (wantF g61) p64 (dLook (nat_lit 16) [] [] (lkIxSl (nat_lit 2) g62 g63) p64 k24d28) k24d28)
noncomputable def k24d30 : KD := 
(dIf [] (wantF g61) p63 (dLook (nat_lit 15) [] [] (lkMove g5) p63 k24d29) k24d29)
noncomputable def k24d31 : KD := 
(dIf [] (wantF g61) p62 (dLook (nat_lit 14) [] [] (lkMove g3) p62 k24d30) k24d30)
noncomputable def k24d32 : KD := 
(dIf [] (wantT g54) p61 (dLook (nat_lit 13) [] [] (lkMove g60) p61 k24d31) k24d31)
noncomputable def k24d33 : KD := 
(dIf [] (wantT g54) p60 (dLook (nat_lit 12) [] [] (lkEq false .str g59 q31) p60 k24d32) k24d32)
noncomputable def k24d34 : KD := 
(dIf [] (wantT g54) p59 (dLook (nat_lit 11) [] [] (lkLoad1 g58) p59 k24d33) k24d33)
noncomputable def k24d35 : KD := 
(dIf [] (wantT g54) p58 (dLook (nat_lit 10) [] [] (lkFieldAddr (nat_lit 1) g57) p58 k24d34) k24d34)
noncomputable def k24d36 : KD := 
(dIf [] (wantT g54) p57 (dLook (nat_lit 9) [] [] (lkIxSl (nat_lit 2) g55 g56) p57 k24d35) k24d35)
noncomputable def k24d37 : KD := 
(dIf [] (wantT g54) p56 (dLook (nat_lit 8) [] [] (lkMove g5) p56 k24d36) k24d36)
noncomputable def k24 : KFun := ⟨[rTmp (nat_lit 2) g2], (kSeq (oSet (xMove q43) p2 
oEnd) (kSeq (oSet (xMove g0) p7 
(oSet (xCall q45 [g7]) p8 
(oSet (xMove g8) p3 
oEnd))) (kSeq (oSet (xMove q43) p4 
oEnd) (kSeq (kSeq (oSet (xMove q30) p5 
oEnd) (kBlock (nat_lit 0) (kLoop (kSeq (kSeq (oSet (xMove g5) p9 
(oSet (xMove g3) p10 
(oSet (xLook (lkLen .sl g10)) p11 
(oSet (xLook (lkBin .lss g9 g11)) p12 
oEnd)))) (kCond g12 kSkip (kExit (nat_lit 0)))) (kSeq (kBlock (nat_lit 1) (kSeq (oSet (xMove g4) p15 
(oSet (xLook (lkLen .sl g15)) p16 
(oSet (xLook (lkBin .sub g16 q18)) p17 
(oSet (xMove g17) p6 
oEnd)))) (kSeq (kSeq (kDraw 
(dLook (nat_lit 0) [] [] (lkMove g6) p18 
(dLook (nat_lit 1) [] [] (lkBin .lss g18 q30) p19 
(dLook (nat_lit 2) [] [] (lkMove g19) p20 
(dIf [] (wantF g20) p21 (dLook (nat_lit 3) [] [] (lkMove g4) p21 k24d18) k24d18))))) (kCond g40 (kSeq (oSet (xMove g4) p41 
(oSet (xMove g3) p42 
(oSet (xMove g5) p43 
(oSet (xLook (lkIxSl (nat_lit 2) g42 g43)) p44 
(oSet (xLook (lkLoadN (nat_lit 2) g44)) p45 
(oSet (xTurn (tnBuildSlice q17 [((nat_lit 0), (nat_lit 2), g45)] (nat_lit 1))) p46 
(oSet (xTurn (tnAppend (nat_lit 2) g41 g46)) p47 
(oSet (xMove g47) p4 
oEnd)))))))) (kExit (nat_lit 1))) kSkip)) (kSeq (kDraw 
(dLook (nat_lit 0) [] [] (lkMove g4) p48 
(dLook (nat_lit 1) [] [] (lkMove g6) p49 
(dLook (nat_lit 2) [] [] (lkIxSl (nat_lit 2) g48 g49) p50 
(dLook (nat_lit 3) [] [] (lkFieldAddr (nat_lit 1) g50) p51 
(dLook (nat_lit 4) [] [] (lkLoad1 g51) p52 
(dLook (nat_lit 5) [] [] (lkEq true .str g52 q31) p53 
(dLook (nat_lit 6) [] [] (lkMove g53) p54 
(dIf [] (wantT g54) p55 (dLook (nat_lit 7) [] [] (lkMove g3) p55 k24d37) k24d37))))))))) (kCond g74 (oSet (xMove g4) p75 
(oSet (xMove g6) p76 
(oSet (xMove g3) p77 
(oSet (xMove g5) p78 
(oSet (xLook (lkIxSl (nat_lit 2) g77 g78)) p79 
(oSet (xLook (lkFieldAddr (nat_lit 1) g79)) p80 
(oSet (xLook (lkLoad1 g80)) p81 
(oSet (xLook (lkIxSl (nat_lit 2) g75 g76)) p82 
(oSet (xLook (lkFieldAddr (nat_lit 1) g82)) p83 
(oDo (xTurn (tnStore (nat_lit 1) g83 g81)) 
oEnd)))))))))) kSkip))))) (oSet (xMove g5) p13 
(oSet (xLook (lkBin .add g13 q18)) p14 
(oSet (xMove g14) p5 
oEnd)))))))) (kSeq (oSet (xMove g4) p84 
(oSet (xMove g84) p2 
oEnd)) kRet)))))⟩
def q46 : OpdF := kC (.string ⟨⟨[63]⟩⟩)
noncomputable def k25 : KFun := ⟨[], (kSeq (oSet (xMove q30) p2 
oEnd) (kBlock (nat_lit 0) (kLoop (kSeq (kSeq (oSet (xMove g2) p3 
(oSet (xMove g0) p4 
(oSet (xLook (lkLen .sl g4)) p5 
(oSet (xLook (lkBin .lss g3 g5)) p6 
oEnd)))) (kCond g6 kSkip (kExit (nat_lit 0)))) (kSeq (kBlock (nat_lit 1) (oSet (xMove g0) p9 
(oSet (xMove g2) p10 
(oSet (xLook (lkBuild q17 [((nat_lit 0), (nat_lit 1), q46), ((nat_lit 1), (nat_lit 1), q46)])) p11 
(oSet (xLook (lkIxSl (nat_lit 2) g9 g10)) p12 
(oDo (xTurn (tnStore (nat_lit 2) g12 g11)) 
oEnd)))))) (oSet (xMove g2) p7 
(oSet (xLook (lkBin .add g7 q18)) p8 
(oSet (xMove g8) p2 
oEnd))))))))⟩
def q47 : OpdF := kC (.func (.func (nat_lit 36)) ⟨[]⟩ ⟨[]⟩)
noncomputable def k26 : KFun := ⟨[rTmp (nat_lit 4) g4], (kSeq (oSet (xTurn (tnBox g1)) p3 
(oSet (xMove q0) p4 
oEnd)) (kSeq (oSet (xMove g0) p5 
(oSet (xLook (lkMkFunc (.func (nat_lit 37)) [] [g3])) p6 
(oSet (xCall q47 [g5, g6]) p7 
(oSet (xMove g7) p4 
oEnd)))) kRet))⟩
noncomputable def k27 : KFun := ⟨[rTmp (nat_lit 4) g4], (kSeq (oSet (xMove q0) p4 
oEnd) (kSeq (kSeq (oSet (xMove q30) p5 
oEnd) (kBlock (nat_lit 0) (kLoop (kSeq (kSeq (oSet (xMove g5) p6 
(oSet (xMove g0) p7 
(oSet (xLook (lkLen .sl g7)) p8 
(oSet (xLook (lkBin .lss g6 g8)) p9 
oEnd)))) (kCond g9 kSkip (kExit (nat_lit 0)))) (kSeq (kBlock (nat_lit 1) (kSeq (oSet (xMove g0) p12 
(oSet (xMove g5) p13 
(oSet (xLook (lkIxSl (nat_lit 2) g12 g13)) p14 
(oSet (xLook (lkLoadN (nat_lit 2) g14)) p15 
(oSet (xMove g1) p16 
(oSet (xCall q16 [g15, g16]) p17 
oEnd)))))) (kCond g17 (kSeq (oSet (xMove q6) p4 
oEnd) kRet) kSkip))) (oSet (xMove g5) p10 
(oSet (xLook (lkBin .add g10 q18)) p11 
(oSet (xMove g11) p5 
oEnd)))))))) (kSeq (oSet (xMove q0) p4 
oEnd) kRet)))⟩
noncomputable def k28 : KFun := ⟨[rTmp (nat_lit 4) g4], (kSeq (oSet (xTurn (tnBox g1)) p3 
(oSet (xMove q0) p4 
oEnd)) (kSeq (kSeq (oSet (xLook (lkLoadN (nat_lit 2) g3)) p5 
(oSet (xCall q9 [g5]) p6 
oEnd)) (kCond g6 (kSeq (oSet (xMove q6) p4 
oEnd) kRet) kSkip)) (kSeq (oSet (xMove g0) p7 
(oSet (xCall q21 [g7]) p8 
(oSet (xLook (lkMkFunc (.func (nat_lit 38)) [] [g3])) p9 
(oSet (xCall q47 [g8, g9]) p10 
(oSet (xMove g10) p4 
oEnd))))) kRet)))⟩
noncomputable def k29d0 : KD := 
(dLook (nat_lit 30) [] [] (lkPick g25 g46 q0) p47 (dEnd [(nat_lit 17), (nat_lit 18), (nat_lit 19), (nat_lit 20), (nat_lit 21), (nat_lit 22), (nat_lit 23), (nat_lit 24), (nat_lit 25), (nat_lit 26), (nat_lit 27), (nat_lit 28), (nat_lit 29), (nat_lit 30), (nat_lit 31), (nat_lit 32), (nat_lit 33), (nat_lit 34), (nat_lit 35), (nat_lit 36), (nat_lit 37), (nat_lit 38), (nat_lit 39), (nat_lit 40), (nat_lit 41), (nat_lit 42), (nat_lit 43), (nat_lit 44), (nat_lit 45), (nat_lit 46), (nat_lit 47)]))
noncomputable def k29d1 : KD := 
(dIf [] (wantT g25) p46 (dLook (nat_lit 29) [] [] (lkPick g32 q6 g45) p46 k29d0) k29d0)
noncomputable def k29d2 : KD := 
(dIf [] (wantF g32) p45 (dLook (nat_lit 28) [] [] (lkPick g36 g44 q0) p45 k29d1) k29d1)
noncomputable def k29d3 : KD := 
(dIf [] (wantT g36) p44 (dLook (nat_lit 27) [] [] (lkBin .leq g38 g43) p44 k29d2) k29d2)
noncomputable def k29d4 : KD := 
(dIf [] (wantT g36) p43 (dLook (nat_lit 26) [] [] (lkLoad1 g42) p43 k29d3) k29d3)
noncomputable def k29d5 : KD := 
(dIf [] (wantT g36) p42 (dLook (nat_lit 25) [] [] (lkFieldAddr (nat_lit 1) g41) p42 k29d4) k29d4)
noncomputable def k29d6 : KD := 
(dIf [] (wantT g36) p41 (dLook (nat_lit 24) [] [] (lkIxSl (nat_lit 2) g39 g40) p41 k29d5) k29d5)
noncomputable def k29d7 : KD := 
(dIf [] (wantT g36) p40 (dLook (nat_lit 23) [] [] (lkMove g6) p40 k29d6) k29d6)
noncomputable def k29d8 : KD := 
(dIf [] (wantT g36) p39 (dLook (nat_lit 22) [] [] (lkMove g5) p39 k29d7) k29d7)
noncomputable def k29d9 : KD := 
(dIf [] (wantT g36) p38 (dLook (nat_lit 21) [] [] (lkLoad1 g37) p38 k29d8) k29d8)
noncomputable def k29d10 : KD := 
(dIf [] (wantT g36) p37 (dLook (nat_lit 20) [] [] (lkFieldAddr (nat_lit 1) g3) p37 k29d9) k29d9)
noncomputable def k29d11 : KD := 
(dIf [] (wantF g32) p36 (dLook (nat_lit 19) [] [] (lkMove g35) p36 k29d10) k29d10)
noncomputable def k29d12 : KD := 
(dIf [] (wantF g32) p35 (dLook (nat_lit 18) [] [] (lkEq true .str g34 q31) p35 k29d11) k29d11)
noncomputable def k29d13 : KD := 
(dIf [] (wantF g32) p34 (dLook (nat_lit 17) [] [] (lkLoad1 g33) p34 k29d12) k29d12)
noncomputable def k29d14 : KD := 
(dIf [] (wantF g32) p33 (dLook (nat_lit 16) [] [] (lkFieldAddr (nat_lit 1) g3) p33 k29d13) k29d13)
noncomputable def k29d15 : KD := 
(dIf [] (wantT g25) p32 (dLook (nat_lit 15) [] [] (lkMove g31) p32 k29d14) k29d14)
noncomputable def k29d16 : KD := 
(dIf [] (wantT g25) p31 (dLook (nat_lit 14) [] [] (lkEq false .str g30 q31) p31 k29d15) k29d15)
noncomputable def k29d17 : KD := 
(dIf [] (wantT g25) p30 (dLook (nat_lit 13) [] [] (lkLoad1 g29) p30 k29d16) k29d16)
noncomputable def k29d18 : KD := 
(dIf [] (wantT g25) p29 (dLook (nat_lit 12) [] [] (lkFieldAddr (nat_lit 1) g28) p29 k29d17) k29d17)
noncomputable def k29d19 : KD := 
(dIf [] (wantT g25) p28 (dLook (nat_lit 11) [] [] (lkIxSl (nat_lit 2) g26 g27) p28 k29d18) k29d18)
noncomputable def k29d20 : KD := 
(dIf [] (wantT g25) p27 (dLook (nat_lit 10) [] [] (lkMove g6) p27 k29d19) k29d19)
noncomputable def k29 : KFun := ⟨[rTmp (nat_lit 4) g4], (kSeq (oSet (xTurn (tnBox g1)) p3 
(oSet (xMove q0) p4 
oEnd)) (kSeq (kSeq (oSet (xLook (lkLoadN (nat_lit 2) g3)) p7 
(oSet (xCall q15 [g7]) p8 
oEnd)) (kCond g8 (kSeq (oSet (xMove q6) p4 
oEnd) kRet) kSkip)) (kSeq (oSet (xMove g0) p9 
(oSet (xCall q22 [g9]) p10 
(oSet (xMove g10) p5 
oEnd))) (kSeq (kSeq (oSet (xMove q30) p6 
oEnd) (kBlock (nat_lit 0) (kLoop (kSeq (kSeq (oSet (xMove g6) p11 
(oSet (xMove g5) p12 
(oSet (xLook (lkLen .sl g12)) p13 
(oSet (xLook (lkBin .lss g11 g13)) p14 
oEnd)))) (kCond g14 kSkip (kExit (nat_lit 0)))) (kSeq (kBlock (nat_lit 1) (kSeq (kDraw 
(dLook (nat_lit 0) [] [] (lkMove g5) p17 
(dLook (nat_lit 1) [] [] (lkMove g6) p18 
(dLook (nat_lit 2) [] [] (lkIxSl (nat_lit 2) g17 g18) p19 
(dLook (nat_lit 3) [] [] (lkFieldAddr (nat_lit 0) g19) p20 
(dLook (nat_lit 4) [] [] (lkLoad1 g20) p21 
(dLook (nat_lit 5) [] [] (lkFieldAddr (nat_lit 0) g3) p22 
(dLook (nat_lit 6) [] [] (lkLoad1 g22) p23 
(dLook (nat_lit 7) [] [] (lkBin .leq g21 g23) p24 
(dLook (nat_lit 8) [] [] (lkMove g24) p25 
(dIf [] (wantT g25) p26 (dLook (nat_lit 9) [] [] (lkMove g5) p26 k29d20) k29d20))))))))))) (kCond g47 (kSeq (oSet (xMove q6) p4 
oEnd) kRet) kSkip))) (oSet (xMove g6) p15 
(oSet (xLook (lkBin .add g15 q18)) p16 
(oSet (xMove g16) p6 
oEnd)))))))) (kSeq (oSet (xMove q0) p4 
oEnd) kRet)))))⟩
noncomputable def k30 : KFun := ⟨[rTmp (nat_lit 4) g4], (kSeq (oSet (xMove q30) p4 
oEnd) (kSeq (kSeq (oSet (xMove g1) p5 
(oSet (xLook (lkBin .lss g5 q18)) p6 
oEnd)) (kCond g6 (kSeq (oSet (xMove q30) p4 
oEnd) kRet) kSkip)) (kSeq (oSet (xMove g0) p7 
(oSet (xMove g1) p8 
(oSet (xLook (lkBin .rem g7 g8)) p9 
(oSet (xMove g9) p0 
oEnd)))) (kSeq (kSeq (oSet (xMove g0) p10 
(oSet (xLook (lkBin .lss g10 q30)) p11 
oEnd)) (kCond g11 (oSet (xMove g0) p12 
(oSet (xMove g1) p13 
(oSet (xLook (lkBin .add g12 g13)) p14 
(oSet (xMove g14) p0 
oEnd)))) kSkip)) (kSeq (oSet (xMove g0) p15 
(oSet (xMove g15) p4 
oEnd)) kRet)))))⟩
noncomputable def k31 : KFun := ⟨[rCellN (nat_lit 4) g4 (nat_lit 2)], (kSeq (oSet (xTurn (tnAlloc q17)) p4 
oEnd) (kSeq (oSet (xMove g0) p5 
(oSet (xMove g1) p6 
(oSet (xLook (lkBuild q17 [((nat_lit 0), (nat_lit 1), g5), ((nat_lit 1), (nat_lit 1), g6)])) p7 
(oDo (xTurn (tnStore (nat_lit 2) g4 g7)) 
oEnd)))) kRet))⟩
noncomputable def k32 : KFun := ⟨[rTmp (nat_lit 4) g4], (kSeq (oSet (xTurn (tnBox g0)) p2 
(oSet (xMove q0) p4 
oEnd)) (kSeq (oSet (xLook (lkFieldAddr (nat_lit 0) g2)) p5 
(oSet (xLook (lkFieldAddr (nat_lit 1) g5)) p6 
(oSet (xLook (lkLoad1 g6)) p7 
(oSet (xLook (lkEq false .str g7 q31)) p8 
(oSet (xMove g8) p9 
(oSetIf (wantF g9) (xMove g1) p10 
(oSetIf (wantF g9) (xLook (lkFieldAddr (nat_lit 0) g2)) p11 
(oSetIf (wantF g9) (xLook (lkFieldAddr (nat_lit 1) g11)) p12 
(oSetIf (wantF g9) (xLook (lkLoad1 g12)) p13 
(oSetIf (wantF g9) (xLook (lkBin .lss g10 g13)) p14 
(oSet (xLook (lkPick g9 q6 g14)) p15 
(oSet (xMove g15) p4 
oEnd)))))))))))) kRet))⟩
noncomputable def k33 : KFun := ⟨[rTmp (nat_lit 4) g4], (kSeq (oSet (xMove q31) p4 
oEnd) (kSeq (kSeq (oSet (xMove g0) p5 
(oSet (xLook (lkEq false .str g5 q31)) p6 
(oSet (xMove g6) p7 
(oSetIf (wantF g7) (xMove g1) p8 
(oSetIf (wantF g7) (xLook (lkEq true .str g8 q31)) p9 
(oSetIf (wantF g7) (xMove g9) p10 
(oSetIf (wantT g10) (xMove g1) p11 
(oSetIf (wantT g10) (xMove g0) p12 
(oSetIf (wantT g10) (xLook (lkBin .lss g11 g12)) p13 
(oSetIf (wantF g7) (xLook (lkPick g10 g13 q0)) p14 
(oSet (xLook (lkPick g7 q6 g14)) p15 
oEnd))))))))))) (kCond g15 (kSeq (oSet (xMove g1) p16 
(oSet (xMove g16) p4 
oEnd)) kRet) kSkip)) (kSeq (oSet (xMove g0) p17 
(oSet (xMove g17) p4 
oEnd)) kRet)))⟩
def q48 : OpdF := kC (.func (.func (nat_lit 40)) ⟨[]⟩ ⟨[]⟩)
def q49 : OpdF := kC (.func (.func (nat_lit 39)) ⟨[]⟩ ⟨[]⟩)
def q50 : OpdF := kC (.func (.func (nat_lit 41)) ⟨[]⟩ ⟨[]⟩)
def q51 : OpdF := kC (.func (.func (nat_lit 42)) ⟨[]⟩ ⟨[]⟩)
noncomputable def k34d0 : KD := 
(dLook (nat_lit 21) [] [] (lkPick g23 g41 q0) p42 (dEnd [(nat_lit 21), (nat_lit 22), (nat_lit 23), (nat_lit 24), (nat_lit 25), (nat_lit 26), (nat_lit 27), (nat_lit 28), (nat_lit 29), (nat_lit 30), (nat_lit 31), (nat_lit 32), (nat_lit 33), (nat_lit 34), (nat_lit 35), (nat_lit 36), (nat_lit 37), (nat_lit 38), (nat_lit 39), (nat_lit 40), (nat_lit 41), (nat_lit 42)]))
noncomputable def k34d1 : KD := 
(dIf [] (wantT g23) p41 (dLook (nat_lit 20) [] [] (lkPick g31 q6 g40) p41 k34d0) k34d0)
noncomputable def k34d2 : KD := 
(dIf [] (wantF g31) p40 (dLook (nat_lit 19) [] [] (lkBin .leq g33 g39) p40 k34d1) k34d1)
noncomputable def k34d3 : KD := 
(dIf [] (wantF g31) p39 (dLook (nat_lit 18) [] [] (lkLoad1 g38) p39 k34d2) k34d2)
noncomputable def k34d4 : KD := 
(dIf [] (wantF g31) p38 (dLook (nat_lit 17) [] [] (lkFieldAddr (nat_lit 1) g37) p38 k34d3) k34d3)
noncomputable def k34d5 : KD := 
(dIf [] (wantF g31) p37 (dLook (nat_lit 16) [] [] (lkIxSl (nat_lit 2) g34 g36) p37 k34d4) k34d4)
noncomputable def k34d6 : KD := 
(dIf [] (wantF g31) p36 (dLook (nat_lit 15) [] [] (lkBin .sub g35 q18) p36 k34d5) k34d5)
noncomputable def k34d7 : KD := 
(dIf [] (wantF g31) p35 (dLook (nat_lit 14) [] [] (lkMove g6) p35 k34d6) k34d6)
noncomputable def k34d8 : KD := 
(dIf [] (wantF g31) p34 (dLook (nat_lit 13) [] [] (lkMove g3) p34 k34d7) k34d7)
noncomputable def k34d9 : KD := 
(dIf [] (wantF g31) p33 (dLook (nat_lit 12) [] [] (lkLoad1 g32) p33 k34d8) k34d8)
noncomputable def k34d10 : KD := 
(dIf [] (wantF g31) p32 (dLook (nat_lit 11) [] [] (lkFieldAddr (nat_lit 0) g5) p32 k34d9) k34d9)
noncomputable def k34d11 : KD := 
(dIf [] (wantT g23) p31 (dLook (nat_lit 10) [] [] (lkMove g30) p31 k34d10) k34d10)
noncomputable def k34d12 : KD := 
(dIf [] (wantT g23) p30 (dLook (nat_lit 9) [] [] (lkEq false .str g29 q31) p30 k34d11) k34d11)
noncomputable def k34d13 : KD := 
(dIf [] (wantT g23) p29 (dLook (nat_lit 8) [] [] (lkLoad1 g28) p29 k34d12) k34d12)
noncomputable def k34d14 : KD := 
(dIf [] (wantT g23) p28 (dLook (nat_lit 7) [] [] (lkFieldAddr (nat_lit 1) g27) p28 k34d13) k34d13)
noncomputable def k34d15 : KD := 
(dIf [] (wantT g23) p27 (dLook (nat_lit 6) [] [] (lkIxSl (nat_lit 2) g24 g26) p27 k34d14) k34d14)
noncomputable def k34d16 : KD := 
(dIf [] (wantT g23) p26 (dLook (nat_lit 5) [] [] (lkBin .sub g25 q18) p26 k34d15) k34d15)
noncomputable def k34d17 : KD := 
(dIf [] (wantT g23) p25 (dLook (nat_lit 4) [] [] (lkMove g6) p25 k34d16) k34d16)
noncomputable def k34d18 : KD := 
(dLook (nat_lit 18) [] [] (lkPick g52 g64 q0) p65 (dEnd [(nat_lit 47), (nat_lit 48), (nat_lit 49), (nat_lit 50), (nat_lit 51), (nat_lit 52), (nat_lit 53), (nat_lit 54), (nat_lit 55), (nat_lit 56), (nat_lit 57), (nat_lit 58), (nat_lit 59), (nat_lit 60), (nat_lit 61), (nat_lit 62), (nat_lit 63), (nat_lit 64), (nat_lit 65)]))
noncomputable def k34d19 : KD := 
(dIf [] (wantT g52) p64 (dLook (nat_lit 17) [] [] (lkPick g56 q6 g63) p64 k34d18) k34d18)
noncomputable def k34d20 : KD := 
(dIf [] (wantF g56) p63 (dLook (nat_lit 16) [] [] (lkBin .gtr g58 g62) p63 k34d19) k34d19)
noncomputable def k34d21 : KD := 
(dIf [] (wantF g56) p62 (dLook (nat_lit 15) [] [] (lkLoad1 g61) p62 k34d20) k34d20)
noncomputable def k34d22 : KD := 
(dIf [] (wantF g56) p61 (dLook (nat_lit 14) [] [] (lkFieldAddr (nat_lit 1) g60) p61 k34d21) k34d21)
noncomputable def k34d23 : KD := 
(dIf [] (wantF g56) p60 (dTurn (nat_lit 13) [] [] false (xNil g59) p60 k34d22) k34d22)
noncomputable def k34d24 : KD := 
(dIf [] (wantF g56) p59 (dLook (nat_lit 12) [] [] (lkMove g7) p59 k34d23) k34d23)
noncomputable def k34d25 : KD := 
(dIf [] (wantF g56) p58 (dLook (nat_lit 11) [] [] (lkLoad1 g57) p58 k34d24) k34d24)
noncomputable def k34d26 : KD := 
(dIf [] (wantF g56) p57 (dLook (nat_lit 10) [] [] (lkFieldAddr (nat_lit 1) g5) p57 k34d25) k34d25)
noncomputable def k34d27 : KD := 
(dIf [] (wantT g52) p56 (dLook (nat_lit 9) [] [] (lkMove g55) p56 k34d26) k34d26)
noncomputable def k34d28 : KD := 
(dIf [] (wantT g52) p55 (dLook (nat_lit 8) [] [] (lkEq false .str g54 q31) p55 k34d27) k34d27)
noncomputable def k34d29 : KD := 
(dIf [] (wantT g52) p54 (dLook (nat_lit 7) [] [] (lkLoad1 g53) p54 k34d28) k34d28)
noncomputable def k34 : KFun := ⟨[rTmp (nat_lit 2) g2], (kSeq (oSet (xMove q43) p2 
oEnd) (kSeq (oSet (xMove g0) p8 
(oSet (xCall q48 [g8]) p9 
(oSet (xCall q49 [g9, q9]) p10 
(oSet (xMove g10) p0 
oEnd)))) (kSeq (oSet (xMove g0) p11 
(oSet (xCall q50 [g11, q51]) p12 
oEnd)) (kSeq (oSet (xMove q43) p3 
oEnd) (kSeq (kSeq (oSet (xMove g0) p13 
(oSet (xLook (lkLen .sl g13)) p14 
(oSet (xMove q30) p15 
oEnd))) (kBlock (nat_lit 0) (kLoop (kSeq (oSet (xLook (lkBin .lss g15 g14)) p16 
oEnd) (kSeq (kCond g16 kSkip (kExit (nat_lit 0))) (kSeq (kBlock (nat_lit 1) (kSeq (oSet (xLook (lkIxSl (nat_lit 2) g13 g15)) p17 
(oSet (xLook (lkLoadN (nat_lit 2) g17)) p18 
(oSet (xTurn (tnAlloc q17)) p5 
(oDo (xTurn (tnStore (nat_lit 2) g5 g18)) 
oEnd)))) (kSeq (kSeq (oSet (xMove g3) p19 
(oSet (xLook (lkLen .sl g19)) p20 
(oSet (xMove g20) p6 
oEnd))) (kSeq (kDraw 
(dLook (nat_lit 0) [] [] (lkMove g6) p21 
(dLook (nat_lit 1) [] [] (lkBin .gtr g21 q30) p22 
(dLook (nat_lit 2) [] [] (lkMove g22) p23 
(dIf [] (wantT g23) p24 (dLook (nat_lit 3) [] [] (lkMove g3) p24 k34d17) k34d17))))) (kCond g42 (kSeq (kSeq (oSet (xMove g3) p43 
(oSet (xMove g6) p44 
(oSet (xLook (lkBin .sub g44 q18)) p45 
(oSet (xLook (lkIxSl (nat_lit 2) g43 g45)) p46 
(oSet (xMove g46) p7 
oEnd))))) (kSeq (kDraw 
(dLook (nat_lit 0) [] [] (lkMove g7) p47 
(dTurn (nat_lit 1) [] [] false (xNil g47) p48 
(dLook (nat_lit 2) [] [] (lkFieldAddr (nat_lit 1) g48) p49 
(dLook (nat_lit 3) [] [] (lkLoad1 g49) p50 
(dLook (nat_lit 4) [] [] (lkEq true .str g50 q31) p51 
(dLook (nat_lit 5) [] [] (lkMove g51) p52 
(dIf [] (wantT g52) p53 (dLook (nat_lit 6) [] [] (lkFieldAddr (nat_lit 1) g5) p53 k34d29) k34d29)))))))) (kCond g65 (oSet (xMove g7) p66 
(oSet (xLook (lkFieldAddr (nat_lit 1) g5)) p67 
(oSet (xLook (lkLoad1 g67)) p68 
(oSet (xNil g66) p69 
(oSet (xLook (lkFieldAddr (nat_lit 1) g69)) p70 
(oDo (xTurn (tnStore (nat_lit 1) g70 g68)) 
oEnd)))))) kSkip))) (kExit (nat_lit 1))) kSkip))) (oSet (xMove g3) p71 
(oSet (xLook (lkLoadN (nat_lit 2) g5)) p72 
(oSet (xTurn (tnBuildSlice q17 [((nat_lit 0), (nat_lit 2), g72)] (nat_lit 1))) p73 
(oSet (xTurn (tnAppend (nat_lit 2) g71 g73)) p74 
(oSet (xMove g74) p3 
oEnd)))))))) (oSet (xLook (lkBin .add g15 q18)) p75 
(oSet (xMove g75) p15 
oEnd)))))))) (kSeq (oSet (xMove g3) p76 
(oSet (xMove g76) p2 
oEnd)) kRet))))))⟩
noncomputable def k35d0 : KD := 
(dLook (nat_lit 16) [] [] (lkPick g21 g32 q0) p33 (dEnd [(nat_lit 17), (nat_lit 18), (nat_lit 19), (nat_lit 20), (nat_lit 21), (nat_lit 22), (nat_lit 23), (nat_lit 24), (nat_lit 25), (nat_lit 26), (nat_lit 27), (nat_lit 28), (nat_lit 29), (nat_lit 30), (nat_lit 31), (nat_lit 32), (nat_lit 33)]))
noncomputable def k35d1 : KD := 
(dIf [] (wantT g21) p32 (dLook (nat_lit 15) [] [] (lkBin .leq g26 g31) p32 k35d0) k35d0)
noncomputable def k35d2 : KD := 
(dIf [] (wantT g21) p31 (dLook (nat_lit 14) [] [] (lkLoad1 g30) p31 k35d1) k35d1)
noncomputable def k35d3 : KD := 
(dIf [] (wantT g21) p30 (dLook (nat_lit 13) [] [] (lkFieldAddr (nat_lit 0) g29) p30 k35d2) k35d2)
noncomputable def k35d4 : KD := 
(dIf [] (wantT g21) p29 (dLook (nat_lit 12) [] [] (lkIxSl (nat_lit 2) g27 g28) p29 k35d3) k35d3)
noncomputable def k35d5 : KD := 
(dIf [] (wantT g21) p28 (dLook (nat_lit 11) [] [] (lkMove g4) p28 k35d4) k35d4)
noncomputable def k35d6 : KD := 
(dIf [] (wantT g21) p27 (dLook (nat_lit 10) [] [] (lkMove g0) p27 k35d5) k35d5)
noncomputable def k35d7 : KD := 
(dIf [] (wantT g21) p26 (dLook (nat_lit 9) [] [] (lkLoad1 g25) p26 k35d6) k35d6)
noncomputable def k35d8 : KD := 
(dIf [] (wantT g21) p25 (dLook (nat_lit 8) [] [] (lkFieldAddr (nat_lit 0) g24) p25 k35d7) k35d7)
noncomputable def k35d9 : KD := 
(dIf [] (wantT g21) p24 (dLook (nat_lit 7) [] [] (lkIxSl (nat_lit 2) g22 g23) p24 k35d8) k35d8)
noncomputable def k35d10 : KD := 
(dIf [] (wantT g21) p23 (dLook (nat_lit 6) [] [] (lkMove g5) p23 k35d9) k35d9)
noncomputable def k35 : KFun := ⟨[rTmp (nat_lit 2) g2], (kSeq (oSet (xMove q43) p2 
oEnd) (kSeq (oSet (xMove q43) p3 
oEnd) (kSeq (kSeq (oSet (xMove q30) p4 
oEnd) (kBlock (nat_lit 0) (kLoop (kSeq (kSeq (oSet (xMove g4) p6 
(oSet (xMove g0) p7 
(oSet (xLook (lkLen .sl g7)) p8 
(oSet (xLook (lkBin .lss g6 g8)) p9 
oEnd)))) (kCond g9 kSkip (kExit (nat_lit 0)))) (kSeq (kBlock (nat_lit 1) (kSeq (kSeq (oSet (xMove g0) p12 
(oSet (xMove g4) p13 
(oSet (xLook (lkIxSl (nat_lit 2) g12 g13)) p14 
(oSet (xLook (lkLoadN (nat_lit 2) g14)) p15 
(oSet (xCall q15 [g15]) p16 
oEnd))))) (kCond g16 (kExit (nat_lit 1)) kSkip)) (kSeq (oSet (xMove q30) p5 
oEnd) (kSeq (kBlock (nat_lit 2) (kLoop (kSeq (kSeq (kDraw 
(dLook (nat_lit 0) [] [] (lkMove g5) p17 
(dLook (nat_lit 1) [] [] (lkMove g3) p18 
(dLook (nat_lit 2) [] [] (lkLen .sl g18) p19 
(dLook (nat_lit 3) [] [] (lkBin .lss g17 g19) p20 
(dLook (nat_lit 4) [] [] (lkMove g20) p21 
(dIf [] (wantT g21) p22 (dLook (nat_lit 5) [] [] (lkMove g3) p22 k35d10) k35d10))))))) (kCond g33 kSkip (kExit (nat_lit 2)))) (kBlock (nat_lit 3) (oSet (xMove g5) p34 
(oSet (xLook (lkBin .add g34 q18)) p35 
(oSet (xMove g35) p5 
oEnd))))))) (kDraw 
(dTurn (nat_lit 0) [] [] false (xTurn (tnBuildSlice [] [] (nat_lit 0))) p36 
(dLook (nat_lit 1) [] [] (lkMove g3) p37 
(dLook (nat_lit 2) [] [] (lkMove g5) p38 
(dLook (nat_lit 3) [] [] (lkSliceSl (nat_lit 2) g37 none (some g38) none) p39 
(dTurn (nat_lit 4) [] [] true (xTurn (tnAppend (nat_lit 2) g36 g39)) p40 
(dLook (nat_lit 5) [] [] (lkMove g0) p41 
(dLook (nat_lit 6) [] [] (lkMove g4) p42 
(dLook (nat_lit 7) [] [] (lkIxSl (nat_lit 2) g41 g42) p43 
(dLook (nat_lit 8) [(nat_lit 4)] [] (lkLoadN (nat_lit 2) g43) p44 
(dTurn (nat_lit 9) [] [] false (xTurn (tnBuildSlice q17 [((nat_lit 0), (nat_lit 2), g44)] (nat_lit 1))) p45 
(dTurn (nat_lit 10) [] [(nat_lit 4)] true (xTurn (tnAppend (nat_lit 2) g40 g45)) p46 
(dLook (nat_lit 11) [] [] (lkMove g3) p47 
(dLook (nat_lit 12) [] [] (lkMove g5) p48 
(dLook (nat_lit 13) [] [] (lkSliceSl (nat_lit 2) g47 (some g48) none none) p49 
(dTurn (nat_lit 14) [] [(nat_lit 4), (nat_lit 10)] true (xTurn (tnAppend (nat_lit 2) g46 g49)) p50 
(dLook (nat_lit 15) [] [(nat_lit 4), (nat_lit 10), (nat_lit 14)] (lkMove g50) p3 (dEnd [(nat_lit 36), (nat_lit 37), (nat_lit 38), (nat_lit 39), (nat_lit 40), (nat_lit 41), (nat_lit 42), (nat_lit 43), (nat_lit 44), (nat_lit 45), (nat_lit 46), (nat_lit 47), (nat_lit 48), (nat_lit 49), (nat_lit 50), (nat_lit 3)])))))))))))))))))))))) (oSet (xMove g4) p10 
(oSet (xLook (lkBin .add g10 q18)) p11 
(oSet (xMove g11) p4 
oEnd)))))))) (kSeq (oSet (xMove g3) p51 
(oSet (xMove g51) p2 
oEnd)) kRet))))⟩
def q52 : OpdF := kC (.func (.func (nat_lit 45)) ⟨[]⟩ ⟨[]⟩)
noncomputable def k36 : KFun := ⟨[rTmp (nat_lit 4) g4], (kSeq (oSet (xMove q0) p4 
oEnd) (kSeq (oSet (xMove g0) p5 
(oSet (xMove g1) p6 
(oSet (xCall q52 [g5, g6]) p7 
(oSet (xLook (lkBin .geq g7 q30)) p8 
(oSet (xMove g8) p4 
oEnd))))) kRet))⟩
noncomputable def k37 : KFun := ⟨[rTmp (nat_lit 3) g3], (kSeq (oSet (xTurn (tnBox g0)) p2 
(oSet (xMove q0) p3 
oEnd)) (kSeq (oSet (xLook (lkLoadN (nat_lit 2) g2)) p4 
(oSet (xLook (lkLoad1 g1)) p5 
(oSet (xCall q8 [g4, g5]) p6 
(oSet (xMove g6) p3 
oEnd)))) kRet))⟩
noncomputable def k38 : KFun := ⟨[rTmp (nat_lit 3) g3], (kSeq (oSet (xTurn (tnBox g0)) p2 
(oSet (xMove q0) p3 
oEnd)) (kSeq (oSet (xLook (lkFieldAddr (nat_lit 0) g2)) p4 
(oSet (xLook (lkLoad1 g4)) p5 
(oSet (xLook (lkFieldAddr (nat_lit 0) g1)) p6 
(oSet (xLook (lkLoad1 g6)) p7 
(oSet (xLook (lkBin .leq g5 g7)) p8 
(oSet (xMove g8) p9 
(oSetIf (wantT g9) (xLook (lkFieldAddr (nat_lit 1) g2)) p10 
(oSetIf (wantT g9) (xLook (lkLoad1 g10)) p11 
(oSetIf (wantT g9) (xLook (lkEq false .str g11 q31)) p12 
(oSetIf (wantT g9) (xMove g12) p13 
(oSetIf (wantF g13) (xLook (lkFieldAddr (nat_lit 1) g1)) p14 
(oSetIf (wantF g13) (xLook (lkLoad1 g14)) p15 
(oSetIf (wantF g13) (xLook (lkEq true .str g15 q31)) p16 
(oSetIf (wantF g13) (xMove g16) p17 
(oSetIf (wantT g17) (xLook (lkFieldAddr (nat_lit 1) g1)) p18 
(oSetIf (wantT g17) (xLook (lkLoad1 g18)) p19 
(oSetIf (wantT g17) (xLook (lkFieldAddr (nat_lit 1) g2)) p20 
(oSetIf (wantT g17) (xLook (lkLoad1 g20)) p21 
(oSetIf (wantT g17) (xLook (lkBin .leq g19 g21)) p22 
(oSetIf (wantF g13) (xLook (lkPick g17 g22 q0)) p23 
(oSetIf (wantT g9) (xLook (lkPick g13 q6 g23)) p24 
(oSet (xLook (lkPick g9 g24 q0)) p25 
(oSet (xMove g25) p3 
oEnd))))))))))))))))))))))) kRet))⟩
def q53 : OpdF := kC (.int .i64 (.negSucc (nat_lit 0)))
noncomputable def k39 : KFun := ⟨[rTmp (nat_lit 4) g4], (kSeq (oSet (xMove q43) p4 
oEnd) (kSeq (oSet (xMove g0) p8 
(oSet (xMove g1) p9 
(oSet (xCall q52 [g8, g9]) p10 
(oSet (xMove g10) p5 
oEnd)))) (kSeq (kSeq (oSet (xMove g5) p11 
(oSet (xLook (lkEq false .int g11 q53)) p12 
oEnd)) (kCond g12 (kSeq (oSet (xMove g0) p13 
(oSet (xMove g13) p4 
oEnd)) kRet) kSkip)) (kSeq (kSeq (oSet (xMove g5) p14 
(oSet (xLook (lkBin .add g14 q18)) p15 
(oSet (xMove g15) p6 
oEnd))) (kBlock (nat_lit 0) (kLoop (kSeq (kSeq (oSet (xMove g6) p16 
(oSet (xMove g0) p17 
(oSet (xLook (lkLen .sl g17)) p18 
(oSet (xLook (lkBin .lss g16 g18)) p19 
oEnd)))) (kCond g19 kSkip (kExit (nat_lit 0)))) (kSeq (kBlock (nat_lit 1) (kSeq (oSet (xMove g0) p22 
(oSet (xMove g6) p23 
(oSet (xLook (lkIxSl (nat_lit 2) g22 g23)) p24 
(oSet (xLook (lkLoadN (nat_lit 2) g24)) p25 
(oSet (xTurn (tnAlloc q17)) p7 
(oDo (xTurn (tnStore (nat_lit 2) g7 g25)) 
oEnd)))))) (kSeq (oSet (xMove g1) p26 
(oSet (xLook (lkLoadN (nat_lit 2) g7)) p27 
(oSet (xCall g26 [g27]) p28 
(oSet (xLook (lkUn .not g28)) p29 
oEnd)))) (kCond g29 (kSeq (oSet (xMove g0) p30 
(oSet (xMove g5) p31 
(oSet (xLook (lkLoadN (nat_lit 2) g7)) p32 
(oSet (xLook (lkIxSl (nat_lit 2) g30 g31)) p33 
(oDo (xTurn (tnStore (nat_lit 2) g33 g32)) 
oEnd))))) (oSet (xMove g5) p34 
(oSet (xLook (lkBin .add g34 q18)) p35 
(oSet (xMove g35) p5 
oEnd)))) kSkip)))) (oSet (xMove g6) p20 
(oSet (xLook (lkBin .add g20 q18)) p21 
(oSet (xMove g21) p6 
oEnd)))))))) (kSeq (oSet (xMove g0) p36 
(oSet (xMove g5) p37 
(oSet (xLook (lkSliceSl (nat_lit 2) g36 (some g37) none none)) p38 
(oDo (xTurn (tnClear q17 g38)) 
oEnd)))) (kSeq (oSet (xMove g0) p39 
(oSet (xMove g5) p40 
(oSet (xLook (lkSliceSl (nat_lit 2) g39 none (some g40) none)) p41 
(oSet (xMove g41) p4 
oEnd)))) kRet))))))⟩
noncomputable def k40 : KFun := ⟨[rTmp (nat_lit 2) g2], (kSeq (oSet (xMove q43) p2 
oEnd) (kSeq (kSeq (oSet (xMove g0) p3 
(oSet (xLook (lkEq false .slice g3 q43)) p4 
oEnd)) (kCond g4 (kSeq (oSet (xMove q43) p2 
oEnd) kRet) kSkip)) (kSeq (oSet (xTurn (tnBuildSlice [] [] (nat_lit 0))) p5 
(oSet (xMove g0) p6 
(oSet (xTurn (tnAppend (nat_lit 2) g5 g6)) p7 
(oSet (xMove g7) p2 
oEnd)))) kRet)))⟩
def q54 : OpdF := kC (.func (.func (nat_lit 47)) ⟨[]⟩ ⟨[]⟩)
def q55 : OpdF := kC (.func (.func (nat_lit 46)) ⟨[]⟩ ⟨[]⟩)
noncomputable def k41 : KFun := ⟨[], (kSeq (oSet (xMove g0) p5 
(oSet (xLook (lkLen .sl g5)) p6 
(oSet (xMove g6) p4 
oEnd))) (oSet (xMove g0) p7 
(oSet (xMove g4) p8 
(oSet (xMove g4) p9 
(oSet (xLook (lkIntTo .u64 g9)) p10 
(oSet (xCall q54 [g10]) p11 
(oSet (xMove g1) p12 
(oSet (xCall q55 [g7, q30, g8, g11, g12]) p13 
oEnd))))))))⟩
def q56 : OpdF := kC (.func (.func (nat_lit 43)) ⟨[]⟩ ⟨[]⟩)
def q57 : List Value := [(.int .i64 (.ofNat (nat_lit 0))), (.int .i64 (.ofNat (nat_lit 0)))]
def q58 : OpdF := kC (.func (.func (nat_lit 44)) ⟨[]⟩ ⟨[]⟩)
noncomputable def k42 : KFun := ⟨[rTmp (nat_lit 4) g4], (kSeq (oSet (xTurn (tnBox g0)) p2 
(oSet (xTurn (tnBox g1)) p3 
(oSet (xMove q30) p4 
oEnd))) (kSeq (kDraw 
(dLook (nat_lit 0) [] [] (lkFieldAddr (nat_lit 0) g2) p5 
(dLook (nat_lit 1) [] [] (lkLoad1 g5) p6 
(dLook (nat_lit 2) [] [] (lkFieldAddr (nat_lit 0) g3) p7 
(dLook (nat_lit 3) [] [] (lkLoad1 g7) p8 
(dTurn (nat_lit 4) [] [] true (xCall q58 [g6, g8]) p9 
(dLook (nat_lit 5) [] [] (lkFieldAddr (nat_lit 1) g2) p10 
(dLook (nat_lit 6) [(nat_lit 4)] [] (lkLoad1 g10) p11 
(dLook (nat_lit 7) [] [] (lkFieldAddr (nat_lit 1) g3) p12 
(dLook (nat_lit 8) [(nat_lit 4)] [] (lkLoad1 g12) p13 
(dTurn (nat_lit 9) [] [(nat_lit 4)] true (xCall q58 [g11, g13]) p14 
(dTurn (nat_lit 10) [] [(nat_lit 4), (nat_lit 9)] false (xTurn (tnBuildSlice q57 [((nat_lit 0), (nat_lit 1), g9), ((nat_lit 1), (nat_lit 1), g14)] (nat_lit 2))) p15 
(dTurn (nat_lit 11) [] [(nat_lit 4), (nat_lit 9)] true (xCall q56 [g15]) p16 
(dLook (nat_lit 12) [] [(nat_lit 4), (nat_lit 9), (nat_lit 11)] (lkMove g16) p4 (dEnd [(nat_lit 5), (nat_lit 6), (nat_lit 7), (nat_lit 8), (nat_lit 9), (nat_lit 10), (nat_lit 11), (nat_lit 12), (nat_lit 13), (nat_lit 14), (nat_lit 15), (nat_lit 16), (nat_lit 4)]))))))))))))))) kRet))⟩
noncomputable def k43 : KFun := ⟨[rTmp (nat_lit 2) g2], (kSeq (oSet (xMove q30) p2 
oEnd) (kSeq (oSet (xMove q30) p3 
oEnd) (kSeq (kSeq (oSet (xMove g0) p6 
(oSet (xLook (lkLen .sl g6)) p7 
(oSet (xMove q30) p8 
oEnd))) (kBlock (nat_lit 0) (kLoop (kSeq (oSet (xLook (lkBin .lss g8 g7)) p9 
oEnd) (kSeq (kCond g9 kSkip (kExit (nat_lit 0))) (kSeq (kBlock (nat_lit 1) (kSeq (oSet (xLook (lkIxSl (nat_lit 1) g6 g8)) p10 
(oSet (xLook (lkLoad1 g10)) p11 
(oSet (xMove g11) p5 
oEnd))) (kSeq (oSet (xMove g5) p12 
(oSet (xMove g3) p13 
(oSet (xLook (lkEq true .int g12 g13)) p14 
oEnd))) (kCond g14 (kSeq (oSet (xMove g5) p15 
(oSet (xMove g15) p2 
oEnd)) kRet) kSkip)))) (oSet (xLook (lkBin .add g8 q18)) p16 
(oSet (xMove g16) p8 
oEnd)))))))) (kSeq (oSet (xMove g3) p17 
(oSet (xMove g17) p2 
oEnd)) kRet))))⟩
def q59 : OpdF := kC (.func (.func (nat_lit 48)) ⟨[]⟩ ⟨[]⟩)
noncomputable def k44 : KFun := ⟨[rTmp (nat_lit 4) g4], (kSeq (oSet (xMove q30) p4 
oEnd) (kSeq (oSet (xMove g0) p7 
(oSet (xCall q59 [g7]) p8 
(oSet (xMove g8) p5 
oEnd))) (kSeq (oSet (xMove g1) p9 
(oSet (xCall q59 [g9]) p10 
(oSet (xMove g10) p6 
oEnd))) (kSeq (kSeq (oSet (xMove g5) p11 
oEnd) (kCond g11 (kSeq (kSeq (oSet (xMove g6) p12 
oEnd) (kCond g12 (kSeq (oSet (xMove q30) p4 
oEnd) kRet) kSkip)) (kSeq (oSet (xMove q53) p4 
oEnd) kRet)) kSkip)) (kSeq (kSeq (oSet (xMove g6) p13 
oEnd) (kCond g13 (kSeq (oSet (xMove q18) p4 
oEnd) kRet) kSkip)) (kSeq (kSeq (oSet (xMove g0) p14 
(oSet (xMove g1) p15 
(oSet (xLook (lkBin .lss g14 g15)) p16 
oEnd))) (kCond g16 (kSeq (oSet (xMove q53) p4 
oEnd) kRet) kSkip)) (kSeq (kSeq (oSet (xMove g0) p17 
(oSet (xMove g1) p18 
(oSet (xLook (lkBin .gtr g17 g18)) p19 
oEnd))) (kCond g19 (kSeq (oSet (xMove q18) p4 
oEnd) kRet) kSkip)) (kSeq (oSet (xMove q30) p4 
oEnd) kRet))))))))⟩
noncomputable def k45 : KFun := ⟨[rTmp (nat_lit 4) g4], (kSeq (oSet (xMove q30) p4 
oEnd) (kSeq (kSeq (oSet (xMove g0) p6 
(oSet (xLook (lkLen .sl g6)) p7 
(oSet (xMove q30) p8 
oEnd))) (kBlock (nat_lit 0) (kLoop (kSeq (oSet (xLook (lkBin .lss g8 g7)) p9 
oEnd) (kSeq (kCond g9 kSkip (kExit (nat_lit 0))) (kSeq (kBlock (nat_lit 1) (kSeq (oSet (xMove g8) p10 
(oSet (xMove g10) p5 
oEnd)) (kSeq (oSet (xMove g1) p11 
(oSet (xMove g0) p12 
(oSet (xMove g5) p13 
(oSet (xLook (lkIxSl (nat_lit 2) g12 g13)) p14 
(oSet (xLook (lkLoadN (nat_lit 2) g14)) p15 
(oSet (xCall g11 [g15]) p16 
oEnd)))))) (kCond g16 (kSeq (oSet (xMove g5) p17 
(oSet (xMove g17) p4 
oEnd)) kRet) kSkip)))) (oSet (xLook (lkBin .add g8 q18)) p18 
(oSet (xMove g18) p8 
oEnd)))))))) (kSeq (oSet (xMove q53) p4 
oEnd) kRet)))⟩
def q60 : OpdF := kC (.int .i64 (.ofNat (nat_lit 12)))
def q61 : OpdF := kC (.func (.func (nat_lit 49)) ⟨[]⟩ ⟨[]⟩)
def q62 : OpdF := kC (.func (.func (nat_lit 50)) ⟨[]⟩ ⟨[]⟩)
def q63 : OpdF := kC (.func (.func (nat_lit 51)) ⟨[]⟩ ⟨[]⟩)
def q64 : OpdF := kC (.func (.func (nat_lit 52)) ⟨[]⟩ ⟨[]⟩)
def q65 : OpdF := kC (.func (.func (nat_lit 53)) ⟨[]⟩ ⟨[]⟩)
def q66 : OpdF := kC (.func (.func (nat_lit 54)) ⟨[]⟩ ⟨[]⟩)
noncomputable def k46d0 : KD := 
(dLook (nat_lit 16) [] [(nat_lit 13)] (lkPick g83 g96 q0) p97 (dEnd [(nat_lit 81), (nat_lit 82), (nat_lit 83), (nat_lit 84), (nat_lit 85), (nat_lit 86), (nat_lit 87), (nat_lit 88), (nat_lit 89), (nat_lit 90), (nat_lit 91), (nat_lit 92), (nat_lit 93), (nat_lit 94), (nat_lit 95), (nat_lit 96), (nat_lit 97)]))
noncomputable def k46d1 : KD := 
(dIf [(nat_lit 13)] (wantT g83) p96 (dLook (nat_lit 15) [] [(nat_lit 13)] (lkUn .not g95) p96 k46d0) k46d0)
noncomputable def k46d2 : KD := 
(dIf [(nat_lit 13)] (wantT g83) p95 (dLook (nat_lit 14) [] [(nat_lit 13)] (lkBin .lss g94 q30) p95 k46d1) k46d1)
noncomputable def k46d3 : KD := 
(dIf [] (wantT g83) p94 (dTurn (nat_lit 13) [] [] true (xCall g84 [g89, g93]) p94 k46d2) k46d2)
noncomputable def k46d4 : KD := 
(dIf [] (wantT g83) p93 (dLook (nat_lit 12) [] [] (lkLoadN (nat_lit 2) g92) p93 k46d3) k46d3)
noncomputable def k46d5 : KD := 
(dIf [] (wantT g83) p92 (dLook (nat_lit 11) [] [] (lkIxSl (nat_lit 2) g90 g91) p92 k46d4) k46d4)
noncomputable def k46d6 : KD := 
(dIf [] (wantT g83) p91 (dLook (nat_lit 10) [] [] (lkMove g13) p91 k46d5) k46d5)
noncomputable def k46d7 : KD := 
(dIf [] (wantT g83) p90 (dLook (nat_lit 9) [] [] (lkMove g0) p90 k46d6) k46d6)
noncomputable def k46d8 : KD := 
(dIf [] (wantT g83) p89 (dLook (nat_lit 8) [] [] (lkLoadN (nat_lit 2) g88) p89 k46d7) k46d7)
noncomputable def k46d9 : KD := 
(dIf [] (wantT g83) p88 (dLook (nat_lit 7) [] [] (lkIxSl (nat_lit 2) g85 g87) p88 k46d8) k46d8)
noncomputable def k46d10 : KD := 
(dIf [] (wantT g83) p87 (dLook (nat_lit 6) [] [] (lkBin .sub g86 q18) p87 k46d9) k46d9)
noncomputable def k46d11 : KD := 
(dIf [] (wantT g83) p86 (dLook (nat_lit 5) [] [] (lkMove g1) p86 k46d10) k46d10)
noncomputable def k46d12 : KD := 
(dIf [] (wantT g83) p85 (dLook (nat_lit 4) [] [] (lkMove g0) p85 k46d11) k46d11)
def q67 : OpdF := kC (.func (.func (nat_lit 55)) ⟨[]⟩ ⟨[]⟩)
def q68 : OpdF := kC (.func (.func (nat_lit 56)) ⟨[]⟩ ⟨[]⟩)
def q69 : OpdF := kC (.int .i64 (.ofNat (nat_lit 8)))
noncomputable def k46 : KFun := ⟨[], (kSeq (oSet (xMove q6) p10 
oEnd) (kSeq (oSet (xMove q6) p11 
oEnd) (kBlock (nat_lit 0) (kLoop (kBlock (nat_lit 1) (kSeq (oSet (xMove g2) p21 
(oSet (xMove g1) p22 
(oSet (xLook (lkBin .sub g21 g22)) p23 
(oSet (xMove g23) p12 
oEnd)))) (kSeq (kSeq (oSet (xMove g12) p24 
(oSet (xLook (lkBin .leq g24 q60)) p25 
oEnd)) (kCond g25 (kSeq (oSet (xMove g0) p26 
(oSet (xMove g1) p27 
(oSet (xMove g2) p28 
(oSet (xMove g4) p29 
(oSet (xCall q61 [g26, g27, g28, g29]) p30 
oEnd))))) kRet) kSkip)) (kSeq (kSeq (oSet (xMove g3) p31 
(oSet (xLook (lkEq false .int g31 q30)) p32 
oEnd)) (kCond g32 (kSeq (oSet (xMove g0) p33 
(oSet (xMove g1) p34 
(oSet (xMove g2) p35 
(oSet (xMove g4) p36 
(oSet (xCall q62 [g33, g34, g35, g36]) p37 
oEnd))))) kRet) kSkip)) (kSeq (kSeq (oSet (xMove g10) p38 
(oSet (xLook (lkUn .not g38)) p39 
oEnd)) (kCond g39 (kSeq (oSet (xMove g0) p40 
(oSet (xMove g1) p41 
(oSet (xMove g2) p42 
(oSet (xMove g4) p43 
(oSet (xCall q63 [g40, g41, g42, g43]) p44 
oEnd))))) (oSet (xMove g3) p45 
(oSet (xLook (lkBin .sub g45 q18)) p46 
(oSet (xMove g46) p3 
oEnd)))) kSkip)) (kSeq (oSet (xMove g0) p48 
(oSet (xMove g1) p49 
(oSet (xMove g2) p50 
(oSet (xMove g4) p51 
(oSet (xCall q64 [g48, g49, g50, g51]) p52 
(oSet (xMove g52) p47 
(oSet (xLook (lkExtract (nat_lit 0) g47)) p53 
(oSet (xLook (lkExtract (nat_lit 1) g47)) p54 
(oSet (xMove g53) p13 
(oSet (xMove g54) p14 
oEnd)))))))))) (kSeq (kSeq (oSet (xMove g14) p55 
(oSet (xLook (lkEq false .int g55 q4)) p56 
oEnd)) (kCond g56 (kSeq (oSet (xMove g0) p57 
(oSet (xMove g1) p58 
(oSet (xMove g2) p59 
(oSet (xMove g4) p60 
(oSet (xCall q65 [g57, g58, g59, g60]) p61 
oEnd))))) (kSeq (oSet (xMove g2) p62 
(oSet (xLook (lkBin .sub g62 q18)) p63 
(oSet (xMove g13) p64 
(oSet (xMove g1) p65 
(oSet (xLook (lkBin .sub g64 g65)) p66 
(oSet (xLook (lkBin .sub g63 g66)) p67 
(oSet (xMove g67) p13 
oEnd))))))) (oSet (xMove q18) p14 
oEnd))) kSkip)) (kSeq (kSeq (oSet (xMove g10) p68 
(oSet (xMove g68) p69 
(oSetIf (wantT g69) (xMove g11) p70 
(oSet (xLook (lkPick g69 g70 q0)) p71 
(oSet (xMove g71) p72 
(oSetIf (wantT g72) (xMove g14) p73 
(oSetIf (wantT g72) (xLook (lkEq false .int g73 q18)) p74 
(oSet (xLook (lkPick g72 g74 q0)) p75 
oEnd)))))))) (kCond g75 (kSeq (oSet (xMove g0) p76 
(oSet (xMove g1) p77 
(oSet (xMove g2) p78 
(oSet (xMove g4) p79 
(oSet (xCall q66 [g76, g77, g78, g79]) p80 
oEnd))))) (kCond g80 kRet kSkip)) kSkip)) (kSeq (kSeq (kDraw 
(dLook (nat_lit 0) [] [] (lkMove g1) p81 
(dLook (nat_lit 1) [] [] (lkBin .gtr g81 q30) p82 
(dLook (nat_lit 2) [] [] (lkMove g82) p83 
(dIf [] (wantT g83) p84 (dLook (nat_lit 3) [] [] (lkMove g4) p84 k46d12) k46d12))))) (kCond g97 (kSeq (oSet (xMove g0) p98 
(oSet (xMove g1) p99 
(oSet (xMove g2) p100 
(oSet (xMove g13) p101 
(oSet (xMove g4) p102 
(oSet (xCall q67 [g98, g99, g100, g101, g102]) p103 
(oSet (xMove g103) p15 
oEnd))))))) (kSeq (oSet (xMove g15) p104 
(oSet (xMove g104) p1 
oEnd)) (kExit (nat_lit 1)))) kSkip)) (kSeq (oSet (xMove g0) p106 
(oSet (xMove g1) p107 
(oSet (xMove g2) p108 
(oSet (xMove g13) p109 
(oSet (xMove g4) p110 
(oSet (xCall q68 [g106, g107, g108, g109, g110]) p111 
(oSet (xMove g111) p105 
(oSet (xLook (lkExtract (nat_lit 0) g105)) p112 
(oSet (xLook (lkExtract (nat_lit 1) g105)) p113 
(oSet (xMove g112) p16 
(oSet (xMove g113) p17 
oEnd))))))))))) (kSeq (oSet (xMove g17) p114 
(oSet (xMove g114) p11 
oEnd)) (kSeq (oSet (xMove g16) p115 
(oSet (xMove g1) p116 
(oSet (xLook (lkBin .sub g115 g116)) p117 
(oSet (xMove g2) p118 
(oSet (xMove g16) p119 
(oSet (xLook (lkBin .sub g118 g119)) p120 
(oSet (xMove g117) p18 
(oSet (xMove g120) p19 
oEnd)))))))) (kSeq (oSet (xMove g12) p121 
(oSet (xLook (lkBin .quo g121 q69)) p122 
(oSet (xMove g122) p20 
oEnd))) (kSeq (oSet (xMove g18) p123 
(oSet (xMove g19) p124 
(oSet (xLook (lkBin .lss g123 g124)) p125 
oEnd))) (kCond g125 (kSeq (oSet (xMove g18) p126 
(oSet (xMove g20) p127 
(oSet (xLook (lkBin .geq g126 g127)) p128 
(oSet (xMove g128) p10 
oEnd)))) (kSeq (oSet (xMove g0) p129 
(oSet (xMove g1) p130 
(oSet (xMove g16) p131 
(oSet (xMove g3) p132 
(oSet (xMove g4) p133 
(oSet (xCall q55 [g129, g130, g131, g132, g133]) p134 
oEnd)))))) (oSet (xMove g16) p135 
(oSet (xLook (lkBin .add g135 q18)) p136 
(oSet (xMove g136) p1 
oEnd))))) (kSeq (oSet (xMove g19) p137 
(oSet (xMove g20) p138 
(oSet (xLook (lkBin .geq g137 g138)) p139 
(oSet (xMove g139) p10 
oEnd)))) (kSeq (oSet (xMove g0) p140 
(oSet (xMove g16) p141 
(oSet (xLook (lkBin .add g141 q18)) p142 
(oSet (xMove g2) p143 
(oSet (xMove g3) p144 
(oSet (xMove g4) p145 
(oSet (xCall q55 [g140, g142, g143, g144, g145]) p146 
oEnd))))))) (oSet (xMove g16) p147 
(oSet (xMove g147) p2 
oEnd)))))))))))))))))))))))⟩
def q70 : OpdF := kC (.func (.func (nat_lit 57)) ⟨[]⟩ ⟨[]⟩)
def q71 : OpdF := kC (.func (.func (nat_lit 58)) ⟨[]⟩ ⟨[]⟩)
noncomputable def k47 : KFun := ⟨[rTmp (nat_lit 2) g2], (kSeq (oSet (xMove q30) p2 
oEnd) (kSeq (kCond q0 (kSeq (oSet (xMove g0) p3 
(oSet (xLook (lkIntTo .u32 g3)) p4 
(oSet (xCall q70 [g4]) p5 
(oSet (xMove g5) p2 
oEnd)))) kRet) kSkip) (kSeq (oSet (xMove g0) p6 
(oSet (xCall q71 [g6]) p7 
(oSet (xMove g7) p2 
oEnd))) kRet)))⟩
noncomputable def k48 : KFun := ⟨[rTmp (nat_lit 2) g2], (kSeq (oSet (xMove q0) p2 
oEnd) (kSeq (oSet (xMove g0) p3 
(oSet (xMove g0) p4 
(oSet (xLook (lkEq true .str g3 g4)) p5 
(oSet (xMove g5) p2 
oEnd)))) kRet))⟩
noncomputable def k49d0 : KD := 
(dLook (nat_lit 16) [] [(nat_lit 14)] (lkPick g21 g33 q0) p34 (dEnd [(nat_lit 18), (nat_lit 19), (nat_lit 20), (nat_lit 21), (nat_lit 22), (nat_lit 23), (nat_lit 24), (nat_lit 25), (nat_lit 26), (nat_lit 27), (nat_lit 28), (nat_lit 29), (nat_lit 30), (nat_lit 31), (nat_lit 32), (nat_lit 33), (nat_lit 34)]))
noncomputable def k49d1 : KD := 
(dIf [(nat_lit 14)] (wantT g21) p33 (dLook (nat_lit 15) [] [(nat_lit 14)] (lkBin .lss g32 q30) p33 k49d0) k49d0)
noncomputable def k49d2 : KD := 
(dIf [] (wantT g21) p32 (dTurn (nat_lit 14) [] [] true (xCall g22 [g26, g31]) p32 k49d1) k49d1)
noncomputable def k49d3 : KD := 
(dIf [] (wantT g21) p31 (dLook (nat_lit 13) [] [] (lkLoadN (nat_lit 2) g30) p31 k49d2) k49d2)
noncomputable def k49d4 : KD := 
(dIf [] (wantT g21) p30 (dLook (nat_lit 12) [] [] (lkIxSl (nat_lit 2) g27 g29) p30 k49d3) k49d3)
noncomputable def k49d5 : KD := 
(dIf [] (wantT g21) p29 (dLook (nat_lit 11) [] [] (lkBin .sub g28 q18) p29 k49d4) k49d4)
noncomputable def k49d6 : KD := 
(dIf [] (wantT g21) p28 (dLook (nat_lit 10) [] [] (lkMove g9) p28 k49d5) k49d5)
noncomputable def k49d7 : KD := 
(dIf [] (wantT g21) p27 (dLook (nat_lit 9) [] [] (lkMove g0) p27 k49d6) k49d6)
noncomputable def k49d8 : KD := 
(dIf [] (wantT g21) p26 (dLook (nat_lit 8) [] [] (lkLoadN (nat_lit 2) g25) p26 k49d7) k49d7)
noncomputable def k49d9 : KD := 
(dIf [] (wantT g21) p25 (dLook (nat_lit 7) [] [] (lkIxSl (nat_lit 2) g23 g24) p25 k49d8) k49d8)
noncomputable def k49d10 : KD := 
(dIf [] (wantT g21) p24 (dLook (nat_lit 6) [] [] (lkMove g9) p24 k49d9) k49d9)
noncomputable def k49d11 : KD := 
(dIf [] (wantT g21) p23 (dLook (nat_lit 5) [] [] (lkMove g0) p23 k49d10) k49d10)
noncomputable def k49 : KFun := ⟨[], (kSeq (oSet (xMove g1) p10 
(oSet (xLook (lkBin .add g10 q18)) p11 
(oSet (xMove g11) p8 
oEnd))) (kBlock (nat_lit 0) (kLoop (kSeq (kSeq (oSet (xMove g8) p12 
(oSet (xMove g2) p13 
(oSet (xLook (lkBin .lss g12 g13)) p14 
oEnd))) (kCond g14 kSkip (kExit (nat_lit 0)))) (kSeq (kBlock (nat_lit 1) (kSeq (oSet (xMove g8) p17 
(oSet (xMove g17) p9 
oEnd)) (kBlock (nat_lit 2) (kLoop (kSeq (kSeq (kDraw 
(dLook (nat_lit 0) [] [] (lkMove g9) p18 
(dLook (nat_lit 1) [] [] (lkMove g1) p19 
(dLook (nat_lit 2) [] [] (lkBin .gtr g18 g19) p20 
(dLook (nat_lit 3) [] [] (lkMove g20) p21 
(dIf [] (wantT g21) p22 (dLook (nat_lit 4) [] [] (lkMove g3) p22 k49d11) k49d11)))))) (kCond g34 kSkip (kExit (nat_lit 2)))) (kSeq (kBlock (nat_lit 3) (kDraw 
(dLook (nat_lit 0) [] [] (lkMove g0) p37 
(dLook (nat_lit 1) [] [] (lkMove g9) p38 
(dLook (nat_lit 2) [] [] (lkMove g0) p39 
(dLook (nat_lit 3) [] [] (lkMove g9) p40 
(dLook (nat_lit 4) [] [] (lkBin .sub g40 q18) p41 
(dLook (nat_lit 5) [] [] (lkMove g0) p42 
(dLook (nat_lit 6) [] [] (lkMove g9) p43 
(dLook (nat_lit 7) [] [] (lkBin .sub g43 q18) p44 
(dLook (nat_lit 8) [] [] (lkIxSl (nat_lit 2) g42 g44) p45 
(dLook (nat_lit 9) [] [] (lkLoadN (nat_lit 2) g45) p46 
(dLook (nat_lit 10) [] [] (lkMove g0) p47 
(dLook (nat_lit 11) [] [] (lkMove g9) p48 
(dLook (nat_lit 12) [] [] (lkIxSl (nat_lit 2) g47 g48) p49 
(dLook (nat_lit 13) [] [] (lkLoadN (nat_lit 2) g49) p50 
(dLook (nat_lit 14) [] [] (lkIxSl (nat_lit 2) g37 g38) p51 
(dTurn (nat_lit 15) [] [] true (xTurn (tnStore (nat_lit 2) g51 g46)) noDst 
(dLook (nat_lit 16) [] [(nat_lit 15)] (lkIxSl (nat_lit 2) g39 g41) p52 
(dTurn (nat_lit 17) [] [(nat_lit 15)] true (xTurn (tnStore (nat_lit 2) g52 g50)) noDst (dEnd [(nat_lit 37), (nat_lit 38), (nat_lit 39), (nat_lit 40), (nat_lit 41), (nat_lit 42), (nat_lit 43), (nat_lit 44), (nat_lit 45), (nat_lit 46), (nat_lit 47), (nat_lit 48), (nat_lit 49), (nat_lit 50), (nat_lit 51), (nat_lit 52)]))))))))))))))))))))) (oSet (xMove g9) p35 
(oSet (xLook (lkBin .sub g35 q18)) p36 
(oSet (xMove g36) p9 
oEnd))))))))) (oSet (xMove g8) p15 
(oSet (xLook (lkBin .add g15 q18)) p16 
(oSet (xMove g16) p8 
oEnd))))))))⟩
def q72 : OpdF := kC (.func (.func (nat_lit 59)) ⟨[]⟩ ⟨[]⟩)
noncomputable def k50 : KFun := ⟨[], (kSeq (oSet (xMove g1) p13 
(oSet (xMove g13) p8 
oEnd)) (kSeq (oSet (xMove q30) p9 
oEnd) (kSeq (oSet (xMove g2) p14 
(oSet (xMove g1) p15 
(oSet (xLook (lkBin .sub g14 g15)) p16 
(oSet (xMove g16) p10 
oEnd)))) (kSeq (kSeq (oSet (xMove g10) p17 
(oSet (xLook (lkBin .sub g17 q18)) p18 
(oSet (xLook (lkBin .quo g18 q4)) p19 
(oSet (xMove g19) p11 
oEnd)))) (kBlock (nat_lit 0) (kLoop (kSeq (kSeq (oSet (xMove g11) p20 
(oSet (xLook (lkBin .geq g20 q30)) p21 
oEnd)) (kCond g21 kSkip (kExit (nat_lit 0)))) (kSeq (kBlock (nat_lit 1) (oSet (xMove g0) p24 
(oSet (xMove g11) p25 
(oSet (xMove g10) p26 
(oSet (xMove g8) p27 
(oSet (xMove g3) p28 
(oSet (xCall q72 [g24, g25, g26, g27, g28]) p29 
oEnd))))))) (oSet (xMove g11) p22 
(oSet (xLook (lkBin .sub g22 q18)) p23 
(oSet (xMove g23) p11 
oEnd)))))))) (kSeq (oSet (xMove g10) p30 
(oSet (xLook (lkBin .sub g30 q18)) p31 
(oSet (xMove g31) p12 
oEnd))) (kBlock (nat_lit 2) (kLoop (kSeq (kSeq (oSet (xMove g12) p32 
(oSet (xLook (lkBin .geq g32 q30)) p33 
oEnd)) (kCond g33 kSkip (kExit (nat_lit 2)))) (kSeq (kBlock (nat_lit 3) (kSeq (kDraw 
(dLook (nat_lit 0) [] [] (lkMove g0) p36 
(dLook (nat_lit 1) [] [] (lkMove g8) p37 
(dLook (nat_lit 2) [] [] (lkMove g0) p38 
(dLook (nat_lit 3) [] [] (lkMove g8) p39 
(dLook (nat_lit 4) [] [] (lkMove g12) p40 
(dLook (nat_lit 5) [] [] (lkBin .add g39 g40) p41 
(dLook (nat_lit 6) [] [] (lkMove g0) p42 
(dLook (nat_lit 7) [] [] (lkMove g8) p43 
(dLook (nat_lit 8) [] [] (lkMove g12) p44 
(dLook (nat_lit 9) [] [] (lkBin .add g43 g44) p45 
(dLook (nat_lit 10) [] [] (lkIxSl (nat_lit 2) g42 g45) p46 
(dLook (nat_lit 11) [] [] (lkLoadN (nat_lit 2) g46) p47 
(dLook (nat_lit 12) [] [] (lkMove g0) p48 
(dLook (nat_lit 13) [] [] (lkMove g8) p49 
(dLook (nat_lit 14) [] [] (lkIxSl (nat_lit 2) g48 g49) p50 
(dLook (nat_lit 15) [] [] (lkLoadN (nat_lit 2) g50) p51 
(dLook (nat_lit 16) [] [] (lkIxSl (nat_lit 2) g36 g37) p52 
(dTurn (nat_lit 17) [] [] true (xTurn (tnStore (nat_lit 2) g52 g47)) noDst 
(dLook (nat_lit 18) [] [(nat_lit 17)] (lkIxSl (nat_lit 2) g38 g41) p53 
(dTurn (nat_lit 19) [] [(nat_lit 17)] true (xTurn (tnStore (nat_lit 2) g53 g51)) noDst (dEnd [(nat_lit 36), (nat_lit 37), (nat_lit 38), (nat_lit 39), (nat_lit 40), (nat_lit 41), (nat_lit 42), (nat_lit 43), (nat_lit 44), (nat_lit 45), (nat_lit 46), (nat_lit 47), (nat_lit 48), (nat_lit 49), (nat_lit 50), (nat_lit 51), (nat_lit 52), (nat_lit 53)])))))))))))))))))))))) (oSet (xMove g0) p54 
(oSet (xMove g9) p55 
(oSet (xMove g12) p56 
(oSet (xMove g8) p57 
(oSet (xMove g3) p58 
(oSet (xCall q72 [g54, g55, g56, g57, g58]) p59 
oEnd)))))))) (oSet (xMove g12) p34 
(oSet (xLook (lkBin .sub g34 q18)) p35 
(oSet (xMove g35) p12 
oEnd))))))))))))⟩
def q73 : List Value := [(.int .u64 (.ofNat (nat_lit 0)))]
def q74 : OpdF := kC (.func (.func (nat_lit 60)) ⟨[]⟩ ⟨[]⟩)
def q75 : OpdF := kC (.int .i64 (.ofNat (nat_lit 4)))
def q76 : OpdF := kC (.func (.func (nat_lit 61)) ⟨[]⟩ ⟨[]⟩)
def q77 : OpdF := kC (.int .u64 (.ofNat (nat_lit 1)))
noncomputable def k51 : KFun := ⟨[], (kSeq (oSet (xMove g2) p13 
(oSet (xMove g1) p14 
(oSet (xLook (lkBin .sub g13 g14)) p15 
(oSet (xMove g15) p8 
oEnd)))) (kSeq (oSet (xMove g8) p16 
(oSet (xLook (lkBin .geq g16 q69)) p17 
oEnd)) (kCond g17 (kSeq (oSet (xMove g8) p18 
(oSet (xLook (lkIntTo .u64 g18)) p19 
(oSet (xTurn (tnAlloc q73)) p9 
(oDo (xTurn (tnStore (nat_lit 1) g9 g19)) 
oEnd)))) (kSeq (oSet (xMove g8) p20 
(oSet (xCall q74 [g20]) p21 
(oSet (xMove g21) p10 
oEnd))) (kSeq (oSet (xMove g1) p22 
(oSet (xMove g8) p23 
(oSet (xLook (lkBin .quo g23 q75)) p24 
(oSet (xLook (lkBin .mul g24 q4)) p25 
(oSet (xLook (lkBin .add g22 g25)) p26 
(oSet (xLook (lkBin .sub g26 q18)) p27 
(oSet (xMove g27) p11 
oEnd))))))) (kBlock (nat_lit 0) (kLoop (kSeq (kSeq (oSet (xMove g11) p28 
(oSet (xMove g1) p29 
(oSet (xMove g8) p30 
(oSet (xLook (lkBin .quo g30 q75)) p31 
(oSet (xLook (lkBin .mul g31 q4)) p32 
(oSet (xLook (lkBin .add g29 g32)) p33 
(oSet (xLook (lkBin .add g33 q18)) p34 
(oSet (xLook (lkBin .leq g28 g34)) p35 
oEnd)))))))) (kCond g35 kSkip (kExit (nat_lit 0)))) (kSeq (kBlock (nat_lit 1) (kSeq (oSet (xCall q76 [g9]) p38 
(oSet (xMove g10) p39 
(oSet (xLook (lkBin .sub g39 q77)) p40 
(oSet (xLook (lkBin .and g38 g40)) p41 
(oSet (xLook (lkIntTo .i64 g41)) p42 
(oSet (xMove g42) p12 
oEnd)))))) (kSeq (kSeq (oSet (xMove g12) p43 
(oSet (xMove g8) p44 
(oSet (xLook (lkBin .geq g43 g44)) p45 
oEnd))) (kCond g45 (oSet (xMove g12) p46 
(oSet (xMove g8) p47 
(oSet (xLook (lkBin .sub g46 g47)) p48 
(oSet (xMove g48) p12 
oEnd)))) kSkip)) (kDraw 
(dLook (nat_lit 0) [] [] (lkMove g0) p49 
(dLook (nat_lit 1) [] [] (lkMove g11) p50 
(dLook (nat_lit 2) [] [] (lkMove g0) p51 
(dLook (nat_lit 3) [] [] (lkMove g1) p52 
(dLook (nat_lit 4) [] [] (lkMove g12) p53 
(dLook (nat_lit 5) [] [] (lkBin .add g52 g53) p54 
(dLook (nat_lit 6) [] [] (lkMove g0) p55 
(dLook (nat_lit 7) [] [] (lkMove g1) p56 
(dLook (nat_lit 8) [] [] (lkMove g12) p57 
(dLook (nat_lit 9) [] [] (lkBin .add g56 g57) p58 
(dLook (nat_lit 10) [] [] (lkIxSl (nat_lit 2) g55 g58) p59 
(dLook (nat_lit 11) [] [] (lkLoadN (nat_lit 2) g59) p60 
(dLook (nat_lit 12) [] [] (lkMove g0) p61 
(dLook (nat_lit 13) [] [] (lkMove g11) p62 
(dLook (nat_lit 14) [] [] (lkIxSl (nat_lit 2) g61 g62) p63 
(dLook (nat_lit 15) [] [] (lkLoadN (nat_lit 2) g63) p64 
(dLook (nat_lit 16) [] [] (lkIxSl (nat_lit 2) g49 g50) p65 
(dTurn (nat_lit 17) [] [] true (xTurn (tnStore (nat_lit 2) g65 g60)) noDst 
(dLook (nat_lit 18) [] [(nat_lit 17)] (lkIxSl (nat_lit 2) g51 g54) p66 
(dTurn (nat_lit 19) [] [(nat_lit 17)] true (xTurn (tnStore (nat_lit 2) g66 g64)) noDst (dEnd [(nat_lit 49), (nat_lit 50), (nat_lit 51), (nat_lit 52), (nat_lit 53), (nat_lit 54), (nat_lit 55), (nat_lit 56), (nat_lit 57), (nat_lit 58), (nat_lit 59), (nat_lit 60), (nat_lit 61), (nat_lit 62), (nat_lit 63), (nat_lit 64), (nat_lit 65), (nat_lit 66)]))))))))))))))))))))))))) (oSet (xMove g11) p36 
(oSet (xLook (lkBin .add g36 q18)) p37 
(oSet (xMove g37) p11 
oEnd)))))))))) kSkip)))⟩
def q78 : List Value := [(.int .i64 (.ofNat (nat_lit 0)))]
def q79 : OpdF := kC (.int .i64 (.ofNat (nat_lit 3)))
def q80 : OpdF := kC (.int .i64 (.ofNat (nat_lit 50)))
def q81 : OpdF := kC (.func (.func (nat_lit 62)) ⟨[]⟩ ⟨[]⟩)
def q82 : OpdF := kC (.func (.func (nat_lit 63)) ⟨[]⟩ ⟨[]⟩)
noncomputable def k52 : KFun := ⟨[rTmp (nat_lit 8) g8, rTmp (nat_lit 9) g9], (kSeq (oSet (xMove q30) p8 
(oSet (xMove q30) p9 
oEnd)) (kSeq (oSet (xMove g2) p15 
(oSet (xMove g1) p16 
(oSet (xLook (lkBin .sub g15 g16)) p17 
(oSet (xMove g17) p10 
oEnd)))) (kSeq (oSet (xTurn (tnAlloc q78)) p11 
oEnd) (kSeq (oSet (xMove g1) p18 
(oSet (xMove g10) p19 
(oSet (xLook (lkBin .quo g19 q75)) p20 
(oSet (xLook (lkBin .mul g20 q18)) p21 
(oSet (xLook (lkBin .add g18 g21)) p22 
(oSet (xMove g22) p12 
oEnd)))))) (kSeq (oSet (xMove g1) p23 
(oSet (xMove g10) p24 
(oSet (xLook (lkBin .quo g24 q75)) p25 
(oSet (xLook (lkBin .mul g25 q4)) p26 
(oSet (xLook (lkBin .add g23 g26)) p27 
(oSet (xMove g27) p13 
oEnd)))))) (kSeq (oSet (xMove g1) p28 
(oSet (xMove g10) p29 
(oSet (xLook (lkBin .quo g29 q75)) p30 
(oSet (xLook (lkBin .mul g30 q79)) p31 
(oSet (xLook (lkBin .add g28 g31)) p32 
(oSet (xMove g32) p14 
oEnd)))))) (kSeq (kSeq (oSet (xMove g10) p33 
(oSet (xLook (lkBin .geq g33 q69)) p34 
oEnd)) (kCond g34 (kSeq (kSeq (oSet (xMove g10) p35 
(oSet (xLook (lkBin .geq g35 q80)) p36 
oEnd)) (kCond g36 (kSeq (oSet (xMove g0) p37 
(oSet (xMove g12) p38 
(oSet (xMove g3) p39 
(oSet (xCall q81 [g37, g38, g11, g39]) p40 
(oSet (xMove g40) p12 
oEnd))))) (kSeq (oSet (xMove g0) p41 
(oSet (xMove g13) p42 
(oSet (xMove g3) p43 
(oSet (xCall q81 [g41, g42, g11, g43]) p44 
(oSet (xMove g44) p13 
oEnd))))) (oSet (xMove g0) p45 
(oSet (xMove g14) p46 
(oSet (xMove g3) p47 
(oSet (xCall q81 [g45, g46, g11, g47]) p48 
(oSet (xMove g48) p14 
oEnd))))))) kSkip)) (oSet (xMove g0) p49 
(oSet (xMove g12) p50 
(oSet (xMove g13) p51 
(oSet (xMove g14) p52 
(oSet (xMove g3) p53 
(oSet (xCall q82 [g49, g50, g51, g52, g11, g53]) p54 
(oSet (xMove g54) p13 
oEnd)))))))) kSkip)) (kSeq (oSet (xLook (lkLoad1 g11)) p55 
oEnd) (kBlock (nat_lit 0) (kSeq (oSet (xLook (lkEq false .int g55 q30)) p58 
(oSet (xMove g58) p57 
oEnd)) (kCond g57 (kSeq (oSet (xMove g13) p59 
(oSet (xMove g59) p8 
(oSet (xMove q18) p9 
oEnd))) kRet) (kSeq (oSet (xLook (lkEq false .int g55 q60)) p61 
(oSet (xMove g61) p60 
oEnd)) (kCond g60 (kSeq (oSet (xMove g13) p62 
(oSet (xMove g62) p8 
(oSet (xMove q4) p9 
oEnd))) kRet) (kSeq (oSet (xMove g13) p56 
(oSet (xMove g56) p8 
(oSet (xMove q30) p9 
oEnd))) kRet))))))))))))))⟩
noncomputable def k53 : KFun := ⟨[], (kSeq (oSet (xMove g1) p10 
(oSet (xMove g10) p8 
oEnd)) (kSeq (oSet (xMove g2) p11 
(oSet (xLook (lkBin .sub g11 q18)) p12 
(oSet (xMove g12) p9 
oEnd))) (kBlock (nat_lit 0) (kLoop (kSeq (kSeq (oSet (xMove g8) p13 
(oSet (xMove g9) p14 
(oSet (xLook (lkBin .lss g13 g14)) p15 
oEnd))) (kCond g15 kSkip (kExit (nat_lit 0)))) (kBlock (nat_lit 1) (kSeq (kDraw 
(dLook (nat_lit 0) [] [] (lkMove g0) p16 
(dLook (nat_lit 1) [] [] (lkMove g8) p17 
(dLook (nat_lit 2) [] [] (lkMove g0) p18 
(dLook (nat_lit 3) [] [] (lkMove g9) p19 
(dLook (nat_lit 4) [] [] (lkMove g0) p20 
(dLook (nat_lit 5) [] [] (lkMove g9) p21 
(dLook (nat_lit 6) [] [] (lkIxSl (nat_lit 2) g20 g21) p22 
(dLook (nat_lit 7) [] [] (lkLoadN (nat_lit 2) g22) p23 
(dLook (nat_lit 8) [] [] (lkMove g0) p24 
(dLook (nat_lit 9) [] [] (lkMove g8) p25 
(dLook (nat_lit 10) [] [] (lkIxSl (nat_lit 2) g24 g25) p26 
(dLook (nat_lit 11) [] [] (lkLoadN (nat_lit 2) g26) p27 
(dLook (nat_lit 12) [] [] (lkIxSl (nat_lit 2) g16 g17) p28 
(dTurn (nat_lit 13) [] [] true (xTurn (tnStore (nat_lit 2) g28 g23)) noDst 
(dLook (nat_lit 14) [] [(nat_lit 13)] (lkIxSl (nat_lit 2) g18 g19) p29 
(dTurn (nat_lit 15) [] [(nat_lit 13)] true (xTurn (tnStore (nat_lit 2) g29 g27)) noDst (dEnd [(nat_lit 16), (nat_lit 17), (nat_lit 18), (nat_lit 19), (nat_lit 20), (nat_lit 21), (nat_lit 22), (nat_lit 23), (nat_lit 24), (nat_lit 25), (nat_lit 26), (nat_lit 27), (nat_lit 28), (nat_lit 29)])))))))))))))))))) (kSeq (oSet (xMove g8) p30 
(oSet (xLook (lkBin .add g30 q18)) p31 
(oSet (xMove g31) p8 
oEnd))) (oSet (xMove g9) p32 
(oSet (xLook (lkBin .sub g32 q18)) p33 
(oSet (xMove g33) p9 
oEnd)))))))))))⟩
def q83 : OpdF := kC (.int .i64 (.ofNat (nat_lit 5)))
noncomputable def k54d0 : KD := 
(dLook (nat_lit 17) [] [(nat_lit 14)] (lkPick g22 g35 q0) p36 (dEnd [(nat_lit 19), (nat_lit 20), (nat_lit 21), (nat_lit 22), (nat_lit 23), (nat_lit 24), (nat_lit 25), (nat_lit 26), (nat_lit 27), (nat_lit 28), (nat_lit 29), (nat_lit 30), (nat_lit 31), (nat_lit 32), (nat_lit 33), (nat_lit 34), (nat_lit 35), (nat_lit 36)]))
noncomputable def k54d1 : KD := 
(dIf [(nat_lit 14)] (wantT g22) p35 (dLook (nat_lit 16) [] [(nat_lit 14)] (lkUn .not g34) p35 k54d0) k54d0)
noncomputable def k54d2 : KD := 
(dIf [(nat_lit 14)] (wantT g22) p34 (dLook (nat_lit 15) [] [(nat_lit 14)] (lkBin .lss g33 q30) p34 k54d1) k54d1)
noncomputable def k54d3 : KD := 
(dIf [] (wantT g22) p33 (dTurn (nat_lit 14) [] [] true (xCall g23 [g27, g32]) p33 k54d2) k54d2)
noncomputable def k54d4 : KD := 
(dIf [] (wantT g22) p32 (dLook (nat_lit 13) [] [] (lkLoadN (nat_lit 2) g31) p32 k54d3) k54d3)
noncomputable def k54d5 : KD := 
(dIf [] (wantT g22) p31 (dLook (nat_lit 12) [] [] (lkIxSl (nat_lit 2) g28 g30) p31 k54d4) k54d4)
noncomputable def k54d6 : KD := 
(dIf [] (wantT g22) p30 (dLook (nat_lit 11) [] [] (lkBin .sub g29 q18) p30 k54d5) k54d5)
noncomputable def k54d7 : KD := 
(dIf [] (wantT g22) p29 (dLook (nat_lit 10) [] [] (lkMove g9) p29 k54d6) k54d6)
noncomputable def k54d8 : KD := 
(dIf [] (wantT g22) p28 (dLook (nat_lit 9) [] [] (lkMove g0) p28 k54d7) k54d7)
noncomputable def k54d9 : KD := 
(dIf [] (wantT g22) p27 (dLook (nat_lit 8) [] [] (lkLoadN (nat_lit 2) g26) p27 k54d8) k54d8)
noncomputable def k54d10 : KD := 
(dIf [] (wantT g22) p26 (dLook (nat_lit 7) [] [] (lkIxSl (nat_lit 2) g24 g25) p26 k54d9) k54d9)
noncomputable def k54d11 : KD := 
(dIf [] (wantT g22) p25 (dLook (nat_lit 6) [] [] (lkMove g9) p25 k54d10) k54d10)
noncomputable def k54d12 : KD := 
(dIf [] (wantT g22) p24 (dLook (nat_lit 5) [] [] (lkMove g0) p24 k54d11) k54d11)
noncomputable def k54 : KFun := ⟨[rTmp (nat_lit 8) g8], (kSeq (oSet (xMove q0) p8 
oEnd) (kSeq (oSet (xMove g1) p13 
(oSet (xLook (lkBin .add g13 q18)) p14 
(oSet (xMove g14) p9 
oEnd))) (kSeq (kSeq (oSet (xMove q30) p10 
oEnd) (kBlock (nat_lit 0) (kLoop (kSeq (kSeq (oSet (xMove g10) p15 
(oSet (xLook (lkBin .lss g15 q83)) p16 
oEnd)) (kCond g16 kSkip (kExit (nat_lit 0)))) (kSeq (kBlock (nat_lit 1) (kSeq (kBlock (nat_lit 2) (kLoop (kSeq (kSeq (kDraw 
(dLook (nat_lit 0) [] [] (lkMove g9) p19 
(dLook (nat_lit 1) [] [] (lkMove g2) p20 
(dLook (nat_lit 2) [] [] (lkBin .lss g19 g20) p21 
(dLook (nat_lit 3) [] [] (lkMove g21) p22 
(dIf [] (wantT g22) p23 (dLook (nat_lit 4) [] [] (lkMove g3) p23 k54d12) k54d12)))))) (kCond g36 kSkip (kExit (nat_lit 2)))) (kBlock (nat_lit 3) (oSet (xMove g9) p37 
(oSet (xLook (lkBin .add g37 q18)) p38 
(oSet (xMove g38) p9 
oEnd))))))) (kSeq (kSeq (oSet (xMove g9) p39 
(oSet (xMove g2) p40 
(oSet (xLook (lkEq false .int g39 g40)) p41 
oEnd))) (kCond g41 (kSeq (oSet (xMove q6) p8 
oEnd) kRet) kSkip)) (kSeq (kSeq (oSet (xMove g2) p42 
(oSet (xMove g1) p43 
(oSet (xLook (lkBin .sub g42 g43)) p44 
(oSet (xLook (lkBin .lss g44 q80)) p45 
oEnd)))) (kCond g45 (kSeq (oSet (xMove q0) p8 
oEnd) kRet) kSkip)) (kSeq (kDraw 
(dLook (nat_lit 0) [] [] (lkMove g0) p46 
(dLook (nat_lit 1) [] [] (lkMove g9) p47 
(dLook (nat_lit 2) [] [] (lkMove g0) p48 
(dLook (nat_lit 3) [] [] (lkMove g9) p49 
(dLook (nat_lit 4) [] [] (lkBin .sub g49 q18) p50 
(dLook (nat_lit 5) [] [] (lkMove g0) p51 
(dLook (nat_lit 6) [] [] (lkMove g9) p52 
(dLook (nat_lit 7) [] [] (lkBin .sub g52 q18) p53 
(dLook (nat_lit 8) [] [] (lkIxSl (nat_lit 2) g51 g53) p54 
(dLook (nat_lit 9) [] [] (lkLoadN (nat_lit 2) g54) p55 
(dLook (nat_lit 10) [] [] (lkMove g0) p56 
(dLook (nat_lit 11) [] [] (lkMove g9) p57 
(dLook (nat_lit 12) [] [] (lkIxSl (nat_lit 2) g56 g57) p58 
(dLook (nat_lit 13) [] [] (lkLoadN (nat_lit 2) g58) p59 
(dLook (nat_lit 14) [] [] (lkIxSl (nat_lit 2) g46 g47) p60 
(dTurn (nat_lit 15) [] [] true (xTurn (tnStore (nat_lit 2) g60 g55)) noDst 
(dLook (nat_lit 16) [] [(nat_lit 15)] (lkIxSl (nat_lit 2) g48 g50) p61 
(dTurn (nat_lit 17) [] [(nat_lit 15)] true (xTurn (tnStore (nat_lit 2) g61 g59)) noDst (dEnd [(nat_lit 46), (nat_lit 47), (nat_lit 48), (nat_lit 49), (nat_lit 50), (nat_lit 51), (nat_lit 52), (nat_lit 53), (nat_lit 54), (nat_lit 55), (nat_lit 56), (nat_lit 57), (nat_lit 58), (nat_lit 59), (nat_lit 60), (nat_lit 61)])))))))))))))))))))) (kSeq (kSeq (oSet (xMove g9) p62 
(oSet (xMove g1) p63 
(oSet (xLook (lkBin .sub g62 g63)) p64 
(oSet (xLook (lkBin .geq g64 q4)) p65 
oEnd)))) (kCond g65 (kSeq (oSet (xMove g9) p66 
(oSet (xLook (lkBin .sub g66 q18)) p67 
(oSet (xMove g67) p11 
oEnd))) (kBlock (nat_lit 4) (kLoop (kSeq (kSeq (oSet (xMove g11) p68 
(oSet (xLook (lkBin .geq g68 q18)) p69 
oEnd)) (kCond g69 kSkip (kExit (nat_lit 4)))) (kSeq (kBlock (nat_lit 5) (kSeq (kSeq (kDraw 
(dLook (nat_lit 0) [] [] (lkMove g3) p72 
(dLook (nat_lit 1) [] [] (lkMove g0) p73 
(dLook (nat_lit 2) [] [] (lkMove g11) p74 
(dLook (nat_lit 3) [] [] (lkIxSl (nat_lit 2) g73 g74) p75 
(dLook (nat_lit 4) [] [] (lkLoadN (nat_lit 2) g75) p76 
(dLook (nat_lit 5) [] [] (lkMove g0) p77 
(dLook (nat_lit 6) [] [] (lkMove g11) p78 
(dLook (nat_lit 7) [] [] (lkBin .sub g78 q18) p79 
(dLook (nat_lit 8) [] [] (lkIxSl (nat_lit 2) g77 g79) p80 
(dLook (nat_lit 9) [] [] (lkLoadN (nat_lit 2) g80) p81 
(dTurn (nat_lit 10) [] [] true (xCall g72 [g76, g81]) p82 
(dLook (nat_lit 11) [] [(nat_lit 10)] (lkBin .lss g82 q30) p83 
(dLook (nat_lit 12) [] [(nat_lit 10)] (lkUn .not g83) p84 (dEnd [(nat_lit 72), (nat_lit 73), (nat_lit 74), (nat_lit 75), (nat_lit 76), (nat_lit 77), (nat_lit 78), (nat_lit 79), (nat_lit 80), (nat_lit 81), (nat_lit 82), (nat_lit 83), (nat_lit 84)]))))))))))))))) (kCond g84 (kExit (nat_lit 4)) kSkip)) (kDraw 
(dLook (nat_lit 0) [] [] (lkMove g0) p85 
(dLook (nat_lit 1) [] [] (lkMove g11) p86 
(dLook (nat_lit 2) [] [] (lkMove g0) p87 
(dLook (nat_lit 3) [] [] (lkMove g11) p88 
(dLook (nat_lit 4) [] [] (lkBin .sub g88 q18) p89 
(dLook (nat_lit 5) [] [] (lkMove g0) p90 
(dLook (nat_lit 6) [] [] (lkMove g11) p91 
(dLook (nat_lit 7) [] [] (lkBin .sub g91 q18) p92 
(dLook (nat_lit 8) [] [] (lkIxSl (nat_lit 2) g90 g92) p93 
(dLook (nat_lit 9) [] [] (lkLoadN (nat_lit 2) g93) p94 
(dLook (nat_lit 10) [] [] (lkMove g0) p95 
(dLook (nat_lit 11) [] [] (lkMove g11) p96 
(dLook (nat_lit 12) [] [] (lkIxSl (nat_lit 2) g95 g96) p97 
(dLook (nat_lit 13) [] [] (lkLoadN (nat_lit 2) g97) p98 
(dLook (nat_lit 14) [] [] (lkIxSl (nat_lit 2) g85 g86) p99 
(dTurn (nat_lit 15) [] [] true (xTurn (tnStore (nat_lit 2) g99 g94)) noDst 
(dLook (nat_lit 16) [] [(nat_lit 15)] (lkIxSl (nat_lit 2) g87 g89) p100 
(dTurn (nat_lit 17) [] [(nat_lit 15)] true (xTurn (tnStore (nat_lit 2) g100 g98)) noDst (dEnd [(nat_lit 85), (nat_lit 86), (nat_lit 87), (nat_lit 88), (nat_lit 89), (nat_lit 90), (nat_lit 91), (nat_lit 92), (nat_lit 93), (nat_lit 94), (nat_lit 95), (nat_lit 96), (nat_lit 97), (nat_lit 98), (nat_lit 99), (nat_lit 100)])))))))))))))))))))))) (oSet (xMove g11) p70 
(oSet (xLook (lkBin .sub g70 q18)) p71 
(oSet (xMove g71) p11 
oEnd)))))))) kSkip)) (kSeq (oSet (xMove g2) p101 
(oSet (xMove g9) p102 
(oSet (xLook (lkBin .sub g101 g102)) p103 
(oSet (xLook (lkBin .geq g103 q4)) p104 
oEnd)))) (kCond g104 (kSeq (oSet (xMove g9) p105 
(oSet (xLook (lkBin .add g105 q18)) p106 
(oSet (xMove g106) p12 
oEnd))) (kBlock (nat_lit 6) (kLoop (kSeq (kSeq (oSet (xMove g12) p107 
(oSet (xMove g2) p108 
(oSet (xLook (lkBin .lss g107 g108)) p109 
oEnd))) (kCond g109 kSkip (kExit (nat_lit 6)))) (kSeq (kBlock (nat_lit 7) (kSeq (kSeq (kDraw 
(dLook (nat_lit 0) [] [] (lkMove g3) p112 
(dLook (nat_lit 1) [] [] (lkMove g0) p113 
(dLook (nat_lit 2) [] [] (lkMove g12) p114 
(dLook (nat_lit 3) [] [] (lkIxSl (nat_lit 2) g113 g114) p115 
(dLook (nat_lit 4) [] [] (lkLoadN (nat_lit 2) g115) p116 
(dLook (nat_lit 5) [] [] (lkMove g0) p117 
(dLook (nat_lit 6) [] [] (lkMove g12) p118 
(dLook (nat_lit 7) [] [] (lkBin .sub g118 q18) p119 
(dLook (nat_lit 8) [] [] (lkIxSl (nat_lit 2) g117 g119) p120 
(dLook (nat_lit 9) [] [] (lkLoadN (nat_lit 2) g120) p121 
(dTurn (nat_lit 10) [] [] true (xCall g112 [g116, g121]) p122 
(dLook (nat_lit 11) [] [(nat_lit 10)] (lkBin .lss g122 q30) p123 
(dLook (nat_lit 12) [] [(nat_lit 10)] (lkUn .not g123) p124 (dEnd [(nat_lit 112), (nat_lit 113), (nat_lit 114), (nat_lit 115), (nat_lit 116), (nat_lit 117), (nat_lit 118), (nat_lit 119), (nat_lit 120), (nat_lit 121), (nat_lit 122), (nat_lit 123), (nat_lit 124)]))))))))))))))) (kCond g124 (kExit (nat_lit 6)) kSkip)) (kDraw 
(dLook (nat_lit 0) [] [] (lkMove g0) p125 
(dLook (nat_lit 1) [] [] (lkMove g12) p126 
(dLook (nat_lit 2) [] [] (lkMove g0) p127 
(dLook (nat_lit 3) [] [] (lkMove g12) p128 
(dLook (nat_lit 4) [] [] (lkBin .sub g128 q18) p129 
(dLook (nat_lit 5) [] [] (lkMove g0) p130 
(dLook (nat_lit 6) [] [] (lkMove g12) p131 
(dLook (nat_lit 7) [] [] (lkBin .sub g131 q18) p132 
(dLook (nat_lit 8) [] [] (lkIxSl (nat_lit 2) g130 g132) p133 
(dLook (nat_lit 9) [] [] (lkLoadN (nat_lit 2) g133) p134 
(dLook (nat_lit 10) [] [] (lkMove g0) p135 
(dLook (nat_lit 11) [] [] (lkMove g12) p136 
(dLook (nat_lit 12) [] [] (lkIxSl (nat_lit 2) g135 g136) p137 
(dLook (nat_lit 13) [] [] (lkLoadN (nat_lit 2) g137) p138 
(dLook (nat_lit 14) [] [] (lkIxSl (nat_lit 2) g125 g126) p139 
(dTurn (nat_lit 15) [] [] true (xTurn (tnStore (nat_lit 2) g139 g134)) noDst 
(dLook (nat_lit 16) [] [(nat_lit 15)] (lkIxSl (nat_lit 2) g127 g129) p140 
(dTurn (nat_lit 17) [] [(nat_lit 15)] true (xTurn (tnStore (nat_lit 2) g140 g138)) noDst (dEnd [(nat_lit 125), (nat_lit 126), (nat_lit 127), (nat_lit 128), (nat_lit 129), (nat_lit 130), (nat_lit 131), (nat_lit 132), (nat_lit 133), (nat_lit 134), (nat_lit 135), (nat_lit 136), (nat_lit 137), (nat_lit 138), (nat_lit 139), (nat_lit 140)])))))))))))))))))))))) (oSet (xMove g12) p110 
(oSet (xLook (lkBin .add g110 q18)) p111 
(oSet (xMove g111) p12 
oEnd)))))))) kSkip)))))))) (oSet (xMove g10) p17 
(oSet (xLook (lkBin .add g17 q18)) p18 
(oSet (xMove g18) p10 
oEnd)))))))) (kSeq (oSet (xMove q0) p8 
oEnd) kRet))))⟩
noncomputable def k55d0 : KD := 
(dLook (nat_lit 16) [] [(nat_lit 13)] (lkPick g34 g46 q0) p47 (dEnd [(nat_lit 31), (nat_lit 32), (nat_lit 33), (nat_lit 34), (nat_lit 35), (nat_lit 36), (nat_lit 37), (nat_lit 38), (nat_lit 39), (nat_lit 40), (nat_lit 41), (nat_lit 42), (nat_lit 43), (nat_lit 44), (nat_lit 45), (nat_lit 46), (nat_lit 47)]))
noncomputable def k55d1 : KD := 
(dIf [(nat_lit 13)] (wantT g34) p46 (dLook (nat_lit 15) [] [(nat_lit 13)] (lkUn .not g45) p46 k55d0) k55d0)
noncomputable def k55d2 : KD := 
(dIf [(nat_lit 13)] (wantT g34) p45 (dLook (nat_lit 14) [] [(nat_lit 13)] (lkBin .lss g44 q30) p45 k55d1) k55d1)
noncomputable def k55d3 : KD := 
(dIf [] (wantT g34) p44 (dTurn (nat_lit 13) [] [] true (xCall g35 [g39, g43]) p44 k55d2) k55d2)
noncomputable def k55d4 : KD := 
(dIf [] (wantT g34) p43 (dLook (nat_lit 12) [] [] (lkLoadN (nat_lit 2) g42) p43 k55d3) k55d3)
noncomputable def k55d5 : KD := 
(dIf [] (wantT g34) p42 (dLook (nat_lit 11) [] [] (lkIxSl (nat_lit 2) g40 g41) p42 k55d4) k55d4)
noncomputable def k55d6 : KD := 
(dIf [] (wantT g34) p41 (dLook (nat_lit 10) [] [] (lkMove g11) p41 k55d5) k55d5)
noncomputable def k55d7 : KD := 
(dIf [] (wantT g34) p40 (dLook (nat_lit 9) [] [] (lkMove g0) p40 k55d6) k55d6)
noncomputable def k55d8 : KD := 
(dIf [] (wantT g34) p39 (dLook (nat_lit 8) [] [] (lkLoadN (nat_lit 2) g38) p39 k55d7) k55d7)
noncomputable def k55d9 : KD := 
(dIf [] (wantT g34) p38 (dLook (nat_lit 7) [] [] (lkIxSl (nat_lit 2) g36 g37) p38 k55d8) k55d8)
noncomputable def k55d10 : KD := 
(dIf [] (wantT g34) p37 (dLook (nat_lit 6) [] [] (lkMove g1) p37 k55d9) k55d9)
noncomputable def k55d11 : KD := 
(dIf [] (wantT g34) p36 (dLook (nat_lit 5) [] [] (lkMove g0) p36 k55d10) k55d10)
noncomputable def k55d12 : KD := 
(dLook (nat_lit 15) [] [(nat_lit 13)] (lkPick g53 g64 q0) p65 (dEnd [(nat_lit 50), (nat_lit 51), (nat_lit 52), (nat_lit 53), (nat_lit 54), (nat_lit 55), (nat_lit 56), (nat_lit 57), (nat_lit 58), (nat_lit 59), (nat_lit 60), (nat_lit 61), (nat_lit 62), (nat_lit 63), (nat_lit 64), (nat_lit 65)]))
noncomputable def k55d13 : KD := 
(dIf [(nat_lit 13)] (wantT g53) p64 (dLook (nat_lit 14) [] [(nat_lit 13)] (lkBin .lss g63 q30) p64 k55d12) k55d12)
noncomputable def k55d14 : KD := 
(dIf [] (wantT g53) p63 (dTurn (nat_lit 13) [] [] true (xCall g54 [g58, g62]) p63 k55d13) k55d13)
noncomputable def k55d15 : KD := 
(dIf [] (wantT g53) p62 (dLook (nat_lit 12) [] [] (lkLoadN (nat_lit 2) g61) p62 k55d14) k55d14)
noncomputable def k55d16 : KD := 
(dIf [] (wantT g53) p61 (dLook (nat_lit 11) [] [] (lkIxSl (nat_lit 2) g59 g60) p61 k55d15) k55d15)
noncomputable def k55d17 : KD := 
(dIf [] (wantT g53) p60 (dLook (nat_lit 10) [] [] (lkMove g12) p60 k55d16) k55d16)
noncomputable def k55d18 : KD := 
(dIf [] (wantT g53) p59 (dLook (nat_lit 9) [] [] (lkMove g0) p59 k55d17) k55d17)
noncomputable def k55d19 : KD := 
(dIf [] (wantT g53) p58 (dLook (nat_lit 8) [] [] (lkLoadN (nat_lit 2) g57) p58 k55d18) k55d18)
noncomputable def k55d20 : KD := 
(dIf [] (wantT g53) p57 (dLook (nat_lit 7) [] [] (lkIxSl (nat_lit 2) g55 g56) p57 k55d19) k55d19)
noncomputable def k55d21 : KD := 
(dIf [] (wantT g53) p56 (dLook (nat_lit 6) [] [] (lkMove g1) p56 k55d20) k55d20)
noncomputable def k55d22 : KD := 
(dIf [] (wantT g53) p55 (dLook (nat_lit 5) [] [] (lkMove g0) p55 k55d21) k55d21)
noncomputable def k55 : KFun := ⟨[rTmp (nat_lit 10) g10], (kSeq (oSet (xMove q30) p10 
oEnd) (kSeq (kDraw 
(dLook (nat_lit 0) [] [] (lkMove g0) p13 
(dLook (nat_lit 1) [] [] (lkMove g1) p14 
(dLook (nat_lit 2) [] [] (lkMove g0) p15 
(dLook (nat_lit 3) [] [] (lkMove g3) p16 
(dLook (nat_lit 4) [] [] (lkMove g0) p17 
(dLook (nat_lit 5) [] [] (lkMove g3) p18 
(dLook (nat_lit 6) [] [] (lkIxSl (nat_lit 2) g17 g18) p19 
(dLook (nat_lit 7) [] [] (lkLoadN (nat_lit 2) g19) p20 
(dLook (nat_lit 8) [] [] (lkMove g0) p21 
(dLook (nat_lit 9) [] [] (lkMove g1) p22 
(dLook (nat_lit 10) [] [] (lkIxSl (nat_lit 2) g21 g22) p23 
(dLook (nat_lit 11) [] [] (lkLoadN (nat_lit 2) g23) p24 
(dLook (nat_lit 12) [] [] (lkIxSl (nat_lit 2) g13 g14) p25 
(dTurn (nat_lit 13) [] [] true (xTurn (tnStore (nat_lit 2) g25 g20)) noDst 
(dLook (nat_lit 14) [] [(nat_lit 13)] (lkIxSl (nat_lit 2) g15 g16) p26 
(dTurn (nat_lit 15) [] [(nat_lit 13)] true (xTurn (tnStore (nat_lit 2) g26 g24)) noDst (dEnd [(nat_lit 13), (nat_lit 14), (nat_lit 15), (nat_lit 16), (nat_lit 17), (nat_lit 18), (nat_lit 19), (nat_lit 20), (nat_lit 21), (nat_lit 22), (nat_lit 23), (nat_lit 24), (nat_lit 25), (nat_lit 26)])))))))))))))))))) (kSeq (oSet (xMove g1) p27 
(oSet (xLook (lkBin .add g27 q18)) p28 
(oSet (xMove g2) p29 
(oSet (xLook (lkBin .sub g29 q18)) p30 
(oSet (xMove g28) p11 
(oSet (xMove g30) p12 
oEnd)))))) (kSeq (kBlock (nat_lit 0) (kLoop (kBlock (nat_lit 1) (kSeq (kBlock (nat_lit 2) (kLoop (kSeq (kSeq (kDraw 
(dLook (nat_lit 0) [] [] (lkMove g11) p31 
(dLook (nat_lit 1) [] [] (lkMove g12) p32 
(dLook (nat_lit 2) [] [] (lkBin .leq g31 g32) p33 
(dLook (nat_lit 3) [] [] (lkMove g33) p34 
(dIf [] (wantT g34) p35 (dLook (nat_lit 4) [] [] (lkMove g4) p35 k55d11) k55d11)))))) (kCond g47 kSkip (kExit (nat_lit 2)))) (kBlock (nat_lit 3) (oSet (xMove g11) p48 
(oSet (xLook (lkBin .add g48 q18)) p49 
(oSet (xMove g49) p11 
oEnd))))))) (kSeq (kBlock (nat_lit 4) (kLoop (kSeq (kSeq (kDraw 
(dLook (nat_lit 0) [] [] (lkMove g11) p50 
(dLook (nat_lit 1) [] [] (lkMove g12) p51 
(dLook (nat_lit 2) [] [] (lkBin .leq g50 g51) p52 
(dLook (nat_lit 3) [] [] (lkMove g52) p53 
(dIf [] (wantT g53) p54 (dLook (nat_lit 4) [] [] (lkMove g4) p54 k55d22) k55d22)))))) (kCond g65 kSkip (kExit (nat_lit 4)))) (kBlock (nat_lit 5) (oSet (xMove g12) p66 
(oSet (xLook (lkBin .sub g66 q18)) p67 
(oSet (xMove g67) p12 
oEnd))))))) (kSeq (kSeq (oSet (xMove g11) p68 
(oSet (xMove g12) p69 
(oSet (xLook (lkBin .gtr g68 g69)) p70 
oEnd))) (kCond g70 (kExit (nat_lit 0)) kSkip)) (kSeq (kDraw 
(dLook (nat_lit 0) [] [] (lkMove g0) p71 
(dLook (nat_lit 1) [] [] (lkMove g11) p72 
(dLook (nat_lit 2) [] [] (lkMove g0) p73 
(dLook (nat_lit 3) [] [] (lkMove g12) p74 
(dLook (nat_lit 4) [] [] (lkMove g0) p75 
(dLook (nat_lit 5) [] [] (lkMove g12) p76 
(dLook (nat_lit 6) [] [] (lkIxSl (nat_lit 2) g75 g76) p77 
(dLook (nat_lit 7) [] [] (lkLoadN (nat_lit 2) g77) p78 
(dLook (nat_lit 8) [] [] (lkMove g0) p79 
(dLook (nat_lit 9) [] [] (lkMove g11) p80 
(dLook (nat_lit 10) [] [] (lkIxSl (nat_lit 2) g79 g80) p81 
(dLook (nat_lit 11) [] [] (lkLoadN (nat_lit 2) g81) p82 
(dLook (nat_lit 12) [] [] (lkIxSl (nat_lit 2) g71 g72) p83 
(dTurn (nat_lit 13) [] [] true (xTurn (tnStore (nat_lit 2) g83 g78)) noDst 
(dLook (nat_lit 14) [] [(nat_lit 13)] (lkIxSl (nat_lit 2) g73 g74) p84 
(dTurn (nat_lit 15) [] [(nat_lit 13)] true (xTurn (tnStore (nat_lit 2) g84 g82)) noDst (dEnd [(nat_lit 71), (nat_lit 72), (nat_lit 73), (nat_lit 74), (nat_lit 75), (nat_lit 76), (nat_lit 77), (nat_lit 78), (nat_lit 79), (nat_lit 80), (nat_lit 81), (nat_lit 82), (nat_lit 83), (nat_lit 84)])))))))))))))))))) (kSeq (oSet (xMove g11) p85 
(oSet (xLook (lkBin .add g85 q18)) p86 
(oSet (xMove g86) p11 
oEnd))) (oSet (xMove g12) p87 
(oSet (xLook (lkBin .sub g87 q18)) p88 
(oSet (xMove g88) p12 
oEnd))))))))))) (kSeq (oSet (xMove g11) p89 
(oSet (xMove g89) p10 
oEnd)) kRet)))))⟩
noncomputable def k56d0 : KD := 
(dLook (nat_lit 15) [] [(nat_lit 13)] (lkPick g35 g46 q0) p47 (dEnd [(nat_lit 32), (nat_lit 33), (nat_lit 34), (nat_lit 35), (nat_lit 36), (nat_lit 37), (nat_lit 38), (nat_lit 39), (nat_lit 40), (nat_lit 41), (nat_lit 42), (nat_lit 43), (nat_lit 44), (nat_lit 45), (nat_lit 46), (nat_lit 47)]))
noncomputable def k56d1 : KD := 
(dIf [(nat_lit 13)] (wantT g35) p46 (dLook (nat_lit 14) [] [(nat_lit 13)] (lkBin .lss g45 q30) p46 k56d0) k56d0)
noncomputable def k56d2 : KD := 
(dIf [] (wantT g35) p45 (dTurn (nat_lit 13) [] [] true (xCall g36 [g40, g44]) p45 k56d1) k56d1)
noncomputable def k56d3 : KD := 
(dIf [] (wantT g35) p44 (dLook (nat_lit 12) [] [] (lkLoadN (nat_lit 2) g43) p44 k56d2) k56d2)
noncomputable def k56d4 : KD := 
(dIf [] (wantT g35) p43 (dLook (nat_lit 11) [] [] (lkIxSl (nat_lit 2) g41 g42) p43 k56d3) k56d3)
noncomputable def k56d5 : KD := 
(dIf [] (wantT g35) p42 (dLook (nat_lit 10) [] [] (lkMove g1) p42 k56d4) k56d4)
noncomputable def k56d6 : KD := 
(dIf [] (wantT g35) p41 (dLook (nat_lit 9) [] [] (lkMove g0) p41 k56d5) k56d5)
noncomputable def k56d7 : KD := 
(dIf [] (wantT g35) p40 (dLook (nat_lit 8) [] [] (lkLoadN (nat_lit 2) g39) p40 k56d6) k56d6)
noncomputable def k56d8 : KD := 
(dIf [] (wantT g35) p39 (dLook (nat_lit 7) [] [] (lkIxSl (nat_lit 2) g37 g38) p39 k56d7) k56d7)
noncomputable def k56d9 : KD := 
(dIf [] (wantT g35) p38 (dLook (nat_lit 6) [] [] (lkMove g12) p38 k56d8) k56d8)
noncomputable def k56d10 : KD := 
(dIf [] (wantT g35) p37 (dLook (nat_lit 5) [] [] (lkMove g0) p37 k56d9) k56d9)
noncomputable def k56d11 : KD := 
(dLook (nat_lit 16) [] [(nat_lit 13)] (lkPick g53 g65 q0) p66 (dEnd [(nat_lit 50), (nat_lit 51), (nat_lit 52), (nat_lit 53), (nat_lit 54), (nat_lit 55), (nat_lit 56), (nat_lit 57), (nat_lit 58), (nat_lit 59), (nat_lit 60), (nat_lit 61), (nat_lit 62), (nat_lit 63), (nat_lit 64), (nat_lit 65), (nat_lit 66)]))
noncomputable def k56d12 : KD := 
(dIf [(nat_lit 13)] (wantT g53) p65 (dLook (nat_lit 15) [] [(nat_lit 13)] (lkUn .not g64) p65 k56d11) k56d11)
noncomputable def k56d13 : KD := 
(dIf [(nat_lit 13)] (wantT g53) p64 (dLook (nat_lit 14) [] [(nat_lit 13)] (lkBin .lss g63 q30) p64 k56d12) k56d12)
noncomputable def k56d14 : KD := 
(dIf [] (wantT g53) p63 (dTurn (nat_lit 13) [] [] true (xCall g54 [g58, g62]) p63 k56d13) k56d13)
noncomputable def k56d15 : KD := 
(dIf [] (wantT g53) p62 (dLook (nat_lit 12) [] [] (lkLoadN (nat_lit 2) g61) p62 k56d14) k56d14)
noncomputable def k56d16 : KD := 
(dIf [] (wantT g53) p61 (dLook (nat_lit 11) [] [] (lkIxSl (nat_lit 2) g59 g60) p61 k56d15) k56d15)
noncomputable def k56d17 : KD := 
(dIf [] (wantT g53) p60 (dLook (nat_lit 10) [] [] (lkMove g1) p60 k56d16) k56d16)
noncomputable def k56d18 : KD := 
(dIf [] (wantT g53) p59 (dLook (nat_lit 9) [] [] (lkMove g0) p59 k56d17) k56d17)
noncomputable def k56d19 : KD := 
(dIf [] (wantT g53) p58 (dLook (nat_lit 8) [] [] (lkLoadN (nat_lit 2) g57) p58 k56d18) k56d18)
noncomputable def k56d20 : KD := 
(dIf [] (wantT g53) p57 (dLook (nat_lit 7) [] [] (lkIxSl (nat_lit 2) g55 g56) p57 k56d19) k56d19)
noncomputable def k56d21 : KD := 
(dIf [] (wantT g53) p56 (dLook (nat_lit 6) [] [] (lkMove g13) p56 k56d20) k56d20)
noncomputable def k56d22 : KD := 
(dIf [] (wantT g53) p55 (dLook (nat_lit 5) [] [] (lkMove g0) p55 k56d21) k56d21)
noncomputable def k56d23 : KD := 
(dLook (nat_lit 15) [] [(nat_lit 13)] (lkPick g108 g119 q0) p120 (dEnd [(nat_lit 105), (nat_lit 106), (nat_lit 107), (nat_lit 108), (nat_lit 109), (nat_lit 110), (nat_lit 111), (nat_lit 112), (nat_lit 113), (nat_lit 114), (nat_lit 115), (nat_lit 116), (nat_lit 117), (nat_lit 118), (nat_lit 119), (nat_lit 120)]))
noncomputable def k56d24 : KD := 
(dIf [(nat_lit 13)] (wantT g108) p119 (dLook (nat_lit 14) [] [(nat_lit 13)] (lkBin .lss g118 q30) p119 k56d23) k56d23)
noncomputable def k56d25 : KD := 
(dIf [] (wantT g108) p118 (dTurn (nat_lit 13) [] [] true (xCall g109 [g113, g117]) p118 k56d24) k56d24)
noncomputable def k56d26 : KD := 
(dIf [] (wantT g108) p117 (dLook (nat_lit 12) [] [] (lkLoadN (nat_lit 2) g116) p117 k56d25) k56d25)
noncomputable def k56d27 : KD := 
(dIf [] (wantT g108) p116 (dLook (nat_lit 11) [] [] (lkIxSl (nat_lit 2) g114 g115) p116 k56d26) k56d26)
noncomputable def k56d28 : KD := 
(dIf [] (wantT g108) p115 (dLook (nat_lit 10) [] [] (lkMove g1) p115 k56d27) k56d27)
noncomputable def k56d29 : KD := 
(dIf [] (wantT g108) p114 (dLook (nat_lit 9) [] [] (lkMove g0) p114 k56d28) k56d28)
noncomputable def k56d30 : KD := 
(dIf [] (wantT g108) p113 (dLook (nat_lit 8) [] [] (lkLoadN (nat_lit 2) g112) p113 k56d29) k56d29)
noncomputable def k56d31 : KD := 
(dIf [] (wantT g108) p112 (dLook (nat_lit 7) [] [] (lkIxSl (nat_lit 2) g110 g111) p112 k56d30) k56d30)
noncomputable def k56d32 : KD := 
(dIf [] (wantT g108) p111 (dLook (nat_lit 6) [] [] (lkMove g12) p111 k56d31) k56d31)
noncomputable def k56d33 : KD := 
(dIf [] (wantT g108) p110 (dLook (nat_lit 5) [] [] (lkMove g0) p110 k56d32) k56d32)
noncomputable def k56d34 : KD := 
(dLook (nat_lit 16) [] [(nat_lit 13)] (lkPick g126 g138 q0) p139 (dEnd [(nat_lit 123), (nat_lit 124), (nat_lit 125), (nat_lit 126), (nat_lit 127), (nat_lit 128), (nat_lit 129), (nat_lit 130), (nat_lit 131), (nat_lit 132), (nat_lit 133), (nat_lit 134), (nat_lit 135), (nat_lit 136), (nat_lit 137), (nat_lit 138), (nat_lit 139)]))
noncomputable def k56d35 : KD := 
(dIf [(nat_lit 13)] (wantT g126) p138 (dLook (nat_lit 15) [] [(nat_lit 13)] (lkUn .not g137) p138 k56d34) k56d34)
noncomputable def k56d36 : KD := 
(dIf [(nat_lit 13)] (wantT g126) p137 (dLook (nat_lit 14) [] [(nat_lit 13)] (lkBin .lss g136 q30) p137 k56d35) k56d35)
noncomputable def k56d37 : KD := 
(dIf [] (wantT g126) p136 (dTurn (nat_lit 13) [] [] true (xCall g127 [g131, g135]) p136 k56d36) k56d36)
noncomputable def k56d38 : KD := 
(dIf [] (wantT g126) p135 (dLook (nat_lit 12) [] [] (lkLoadN (nat_lit 2) g134) p135 k56d37) k56d37)
noncomputable def k56d39 : KD := 
(dIf [] (wantT g126) p134 (dLook (nat_lit 11) [] [] (lkIxSl (nat_lit 2) g132 g133) p134 k56d38) k56d38)
noncomputable def k56d40 : KD := 
(dIf [] (wantT g126) p133 (dLook (nat_lit 10) [] [] (lkMove g1) p133 k56d39) k56d39)
noncomputable def k56d41 : KD := 
(dIf [] (wantT g126) p132 (dLook (nat_lit 9) [] [] (lkMove g0) p132 k56d40) k56d40)
noncomputable def k56d42 : KD := 
(dIf [] (wantT g126) p131 (dLook (nat_lit 8) [] [] (lkLoadN (nat_lit 2) g130) p131 k56d41) k56d41)
noncomputable def k56d43 : KD := 
(dIf [] (wantT g126) p130 (dLook (nat_lit 7) [] [] (lkIxSl (nat_lit 2) g128 g129) p130 k56d42) k56d42)
noncomputable def k56d44 : KD := 
(dIf [] (wantT g126) p129 (dLook (nat_lit 6) [] [] (lkMove g13) p129 k56d43) k56d43)
noncomputable def k56d45 : KD := 
(dIf [] (wantT g126) p128 (dLook (nat_lit 5) [] [] (lkMove g0) p128 k56d44) k56d44)
noncomputable def k56 : KFun := ⟨[rTmp (nat_lit 10) g10, rTmp (nat_lit 11) g11], (kSeq (oSet (xMove q30) p10 
(oSet (xMove q0) p11 
oEnd)) (kSeq (kDraw 
(dLook (nat_lit 0) [] [] (lkMove g0) p14 
(dLook (nat_lit 1) [] [] (lkMove g1) p15 
(dLook (nat_lit 2) [] [] (lkMove g0) p16 
(dLook (nat_lit 3) [] [] (lkMove g3) p17 
(dLook (nat_lit 4) [] [] (lkMove g0) p18 
(dLook (nat_lit 5) [] [] (lkMove g3) p19 
(dLook (nat_lit 6) [] [] (lkIxSl (nat_lit 2) g18 g19) p20 
(dLook (nat_lit 7) [] [] (lkLoadN (nat_lit 2) g20) p21 
(dLook (nat_lit 8) [] [] (lkMove g0) p22 
(dLook (nat_lit 9) [] [] (lkMove g1) p23 
(dLook (nat_lit 10) [] [] (lkIxSl (nat_lit 2) g22 g23) p24 
(dLook (nat_lit 11) [] [] (lkLoadN (nat_lit 2) g24) p25 
(dLook (nat_lit 12) [] [] (lkIxSl (nat_lit 2) g14 g15) p26 
(dTurn (nat_lit 13) [] [] true (xTurn (tnStore (nat_lit 2) g26 g21)) noDst 
(dLook (nat_lit 14) [] [(nat_lit 13)] (lkIxSl (nat_lit 2) g16 g17) p27 
(dTurn (nat_lit 15) [] [(nat_lit 13)] true (xTurn (tnStore (nat_lit 2) g27 g25)) noDst (dEnd [(nat_lit 14), (nat_lit 15), (nat_lit 16), (nat_lit 17), (nat_lit 18), (nat_lit 19), (nat_lit 20), (nat_lit 21), (nat_lit 22), (nat_lit 23), (nat_lit 24), (nat_lit 25), (nat_lit 26), (nat_lit 27)])))))))))))))))))) (kSeq (oSet (xMove g1) p28 
(oSet (xLook (lkBin .add g28 q18)) p29 
(oSet (xMove g2) p30 
(oSet (xLook (lkBin .sub g30 q18)) p31 
(oSet (xMove g29) p12 
(oSet (xMove g31) p13 
oEnd)))))) (kSeq (kBlock (nat_lit 0) (kLoop (kSeq (kSeq (kDraw 
(dLook (nat_lit 0) [] [] (lkMove g12) p32 
(dLook (nat_lit 1) [] [] (lkMove g13) p33 
(dLook (nat_lit 2) [] [] (lkBin .leq g32 g33) p34 
(dLook (nat_lit 3) [] [] (lkMove g34) p35 
(dIf [] (wantT g35) p36 (dLook (nat_lit 4) [] [] (lkMove g4) p36 k56d10) k56d10)))))) (kCond g47 kSkip (kExit (nat_lit 0)))) (kBlock (nat_lit 1) (oSet (xMove g12) p48 
(oSet (xLook (lkBin .add g48 q18)) p49 
(oSet (xMove g49) p12 
oEnd))))))) (kSeq (kBlock (nat_lit 2) (kLoop (kSeq (kSeq (kDraw 
(dLook (nat_lit 0) [] [] (lkMove g12) p50 
(dLook (nat_lit 1) [] [] (lkMove g13) p51 
(dLook (nat_lit 2) [] [] (lkBin .leq g50 g51) p52 
(dLook (nat_lit 3) [] [] (lkMove g52) p53 
(dIf [] (wantT g53) p54 (dLook (nat_lit 4) [] [] (lkMove g4) p54 k56d22) k56d22)))))) (kCond g66 kSkip (kExit (nat_lit 2)))) (kBlock (nat_lit 3) (oSet (xMove g13) p67 
(oSet (xLook (lkBin .sub g67 q18)) p68 
(oSet (xMove g68) p13 
oEnd))))))) (kSeq (kSeq (oSet (xMove g12) p69 
(oSet (xMove g13) p70 
(oSet (xLook (lkBin .gtr g69 g70)) p71 
oEnd))) (kCond g71 (kSeq (kDraw 
(dLook (nat_lit 0) [] [] (lkMove g0) p72 
(dLook (nat_lit 1) [] [] (lkMove g13) p73 
(dLook (nat_lit 2) [] [] (lkMove g0) p74 
(dLook (nat_lit 3) [] [] (lkMove g1) p75 
(dLook (nat_lit 4) [] [] (lkMove g0) p76 
(dLook (nat_lit 5) [] [] (lkMove g1) p77 
(dLook (nat_lit 6) [] [] (lkIxSl (nat_lit 2) g76 g77) p78 
(dLook (nat_lit 7) [] [] (lkLoadN (nat_lit 2) g78) p79 
(dLook (nat_lit 8) [] [] (lkMove g0) p80 
(dLook (nat_lit 9) [] [] (lkMove g13) p81 
(dLook (nat_lit 10) [] [] (lkIxSl (nat_lit 2) g80 g81) p82 
(dLook (nat_lit 11) [] [] (lkLoadN (nat_lit 2) g82) p83 
(dLook (nat_lit 12) [] [] (lkIxSl (nat_lit 2) g72 g73) p84 
(dTurn (nat_lit 13) [] [] true (xTurn (tnStore (nat_lit 2) g84 g79)) noDst 
(dLook (nat_lit 14) [] [(nat_lit 13)] (lkIxSl (nat_lit 2) g74 g75) p85 
(dTurn (nat_lit 15) [] [(nat_lit 13)] true (xTurn (tnStore (nat_lit 2) g85 g83)) noDst (dEnd [(nat_lit 72), (nat_lit 73), (nat_lit 74), (nat_lit 75), (nat_lit 76), (nat_lit 77), (nat_lit 78), (nat_lit 79), (nat_lit 80), (nat_lit 81), (nat_lit 82), (nat_lit 83), (nat_lit 84), (nat_lit 85)])))))))))))))))))) (kSeq (oSet (xMove g13) p86 
(oSet (xMove g86) p10 
(oSet (xMove q6) p11 
oEnd))) kRet)) kSkip)) (kSeq (kDraw 
(dLook (nat_lit 0) [] [] (lkMove g0) p87 
(dLook (nat_lit 1) [] [] (lkMove g12) p88 
(dLook (nat_lit 2) [] [] (lkMove g0) p89 
(dLook (nat_lit 3) [] [] (lkMove g13) p90 
(dLook (nat_lit 4) [] [] (lkMove g0) p91 
(dLook (nat_lit 5) [] [] (lkMove g13) p92 
(dLook (nat_lit 6) [] [] (lkIxSl (nat_lit 2) g91 g92) p93 
(dLook (nat_lit 7) [] [] (lkLoadN (nat_lit 2) g93) p94 
(dLook (nat_lit 8) [] [] (lkMove g0) p95 
(dLook (nat_lit 9) [] [] (lkMove g12) p96 
(dLook (nat_lit 10) [] [] (lkIxSl (nat_lit 2) g95 g96) p97 
(dLook (nat_lit 11) [] [] (lkLoadN (nat_lit 2) g97) p98 
(dLook (nat_lit 12) [] [] (lkIxSl (nat_lit 2) g87 g88) p99 
(dTurn (nat_lit 13) [] [] true (xTurn (tnStore (nat_lit 2) g99 g94)) noDst 
(dLook (nat_lit 14) [] [(nat_lit 13)] (lkIxSl (nat_lit 2) g89 g90) p100 
(dTurn (nat_lit 15) [] [(nat_lit 13)] true (xTurn (tnStore (nat_lit 2) g100 g98)) noDst (dEnd [(nat_lit 87), (nat_lit 88), (nat_lit 89), (nat_lit 90), (nat_lit 91), (nat_lit 92), (nat_lit 93), (nat_lit 94), (nat_lit 95), (nat_lit 96), (nat_lit 97), (nat_lit 98), (nat_lit 99), (nat_lit 100)])))))))))))))))))) (kSeq (oSet (xMove g12) p101 
(oSet (xLook (lkBin .add g101 q18)) p102 
(oSet (xMove g102) p12 
oEnd))) (kSeq (oSet (xMove g13) p103 
(oSet (xLook (lkBin .sub g103 q18)) p104 
(oSet (xMove g104) p13 
oEnd))) (kSeq (kBlock (nat_lit 4) (kLoop (kBlock (nat_lit 5) (kSeq (kBlock (nat_lit 6) (kLoop (kSeq (kSeq (kDraw 
(dLook (nat_lit 0) [] [] (lkMove g12) p105 
(dLook (nat_lit 1) [] [] (lkMove g13) p106 
(dLook (nat_lit 2) [] [] (lkBin .leq g105 g106) p107 
(dLook (nat_lit 3) [] [] (lkMove g107) p108 
(dIf [] (wantT g108) p109 (dLook (nat_lit 4) [] [] (lkMove g4) p109 k56d33) k56d33)))))) (kCond g120 kSkip (kExit (nat_lit 6)))) (kBlock (nat_lit 7) (oSet (xMove g12) p121 
(oSet (xLook (lkBin .add g121 q18)) p122 
(oSet (xMove g122) p12 
oEnd))))))) (kSeq (kBlock (nat_lit 8) (kLoop (kSeq (kSeq (kDraw 
(dLook (nat_lit 0) [] [] (lkMove g12) p123 
(dLook (nat_lit 1) [] [] (lkMove g13) p124 
(dLook (nat_lit 2) [] [] (lkBin .leq g123 g124) p125 
(dLook (nat_lit 3) [] [] (lkMove g125) p126 
(dIf [] (wantT g126) p127 (dLook (nat_lit 4) [] [] (lkMove g4) p127 k56d45) k56d45)))))) (kCond g139 kSkip (kExit (nat_lit 8)))) (kBlock (nat_lit 9) (oSet (xMove g13) p140 
(oSet (xLook (lkBin .sub g140 q18)) p141 
(oSet (xMove g141) p13 
oEnd))))))) (kSeq (kSeq (oSet (xMove g12) p142 
(oSet (xMove g13) p143 
(oSet (xLook (lkBin .gtr g142 g143)) p144 
oEnd))) (kCond g144 (kExit (nat_lit 4)) kSkip)) (kSeq (kDraw 
(dLook (nat_lit 0) [] [] (lkMove g0) p145 
(dLook (nat_lit 1) [] [] (lkMove g12) p146 
(dLook (nat_lit 2) [] [] (lkMove g0) p147 
(dLook (nat_lit 3) [] [] (lkMove g13) p148 
(dLook (nat_lit 4) [] [] (lkMove g0) p149 
(dLook (nat_lit 5) [] [] (lkMove g13) p150 
(dLook (nat_lit 6) [] [] (lkIxSl (nat_lit 2) g149 g150) p151 
(dLook (nat_lit 7) [] [] (lkLoadN (nat_lit 2) g151) p152 
(dLook (nat_lit 8) [] [] (lkMove g0) p153 
(dLook (nat_lit 9) [] [] (lkMove g12) p154 
(dLook (nat_lit 10) [] [] (lkIxSl (nat_lit 2) g153 g154) p155 
(dLook (nat_lit 11) [] [] (lkLoadN (nat_lit 2) g155) p156 
(dLook (nat_lit 12) [] [] (lkIxSl (nat_lit 2) g145 g146) p157 
(dTurn (nat_lit 13) [] [] true (xTurn (tnStore (nat_lit 2) g157 g152)) noDst 
(dLook (nat_lit 14) [] [(nat_lit 13)] (lkIxSl (nat_lit 2) g147 g148) p158 
(dTurn (nat_lit 15) [] [(nat_lit 13)] true (xTurn (tnStore (nat_lit 2) g158 g156)) noDst (dEnd [(nat_lit 145), (nat_lit 146), (nat_lit 147), (nat_lit 148), (nat_lit 149), (nat_lit 150), (nat_lit 151), (nat_lit 152), (nat_lit 153), (nat_lit 154), (nat_lit 155), (nat_lit 156), (nat_lit 157), (nat_lit 158)])))))))))))))))))) (kSeq (oSet (xMove g12) p159 
(oSet (xLook (lkBin .add g159 q18)) p160 
(oSet (xMove g160) p12 
oEnd))) (oSet (xMove g13) p161 
(oSet (xLook (lkBin .sub g161 q18)) p162 
(oSet (xMove g162) p13 
oEnd))))))))))) (kSeq (kDraw 
(dLook (nat_lit 0) [] [] (lkMove g0) p163 
(dLook (nat_lit 1) [] [] (lkMove g13) p164 
(dLook (nat_lit 2) [] [] (lkMove g0) p165 
(dLook (nat_lit 3) [] [] (lkMove g1) p166 
(dLook (nat_lit 4) [] [] (lkMove g0) p167 
(dLook (nat_lit 5) [] [] (lkMove g1) p168 
(dLook (nat_lit 6) [] [] (lkIxSl (nat_lit 2) g167 g168) p169 
(dLook (nat_lit 7) [] [] (lkLoadN (nat_lit 2) g169) p170 
(dLook (nat_lit 8) [] [] (lkMove g0) p171 
(dLook (nat_lit 9) [] [] (lkMove g13) p172 
(dLook (nat_lit 10) [] [] (lkIxSl (nat_lit 2) g171 g172) p173 
(dLook (nat_lit 11) [] [] (lkLoadN (nat_lit 2) g173) p174 
(dLook (nat_lit 12) [] [] (lkIxSl (nat_lit 2) g163 g164) p175 
(dTurn (nat_lit 13) [] [] true (xTurn (tnStore (nat_lit 2) g175 g170)) noDst 
(dLook (nat_lit 14) [] [(nat_lit 13)] (lkIxSl (nat_lit 2) g165 g166) p176 
(dTurn (nat_lit 15) [] [(nat_lit 13)] true (xTurn (tnStore (nat_lit 2) g176 g174)) noDst (dEnd [(nat_lit 163), (nat_lit 164), (nat_lit 165), (nat_lit 166), (nat_lit 167), (nat_lit 168), (nat_lit 169), (nat_lit 170), (nat_lit 171), (nat_lit 172), (nat_lit 173), (nat_lit 174), (nat_lit 175), (nat_lit 176)])))))))))))))))))) (kSeq (oSet (xMove g13) p177 
(oSet (xMove g177) p10 
(oSet (xMove q0) p11 
oEnd))) kRet))))))))))))⟩
def q84 : OpdF := kC (.int .u32 (.ofNat (nat_lit 65536)))
def q85 : OpdF := kC (.int .u64 (.ofNat (nat_lit 16)))
def q86 : OpdF := kC (.int .i64 (.ofNat (nat_lit 16)))
def q87 : OpdF := kC (.int .u32 (.ofNat (nat_lit 256)))
def q88 : OpdF := kC (.int .u64 (.ofNat (nat_lit 8)))
def q89 : OpdF := kC (.string ⟨⟨[0, 1, 2, 2, 3, 3, 3, 3, 4, 4, 4, 4, 4, 4, 4, 4, 5, 5, 5, 5, 5, 5, 5, 5, 5, 5, 5, 5, 5, 5, 5, 5, 6, 6, 6, 6, 6, 6, 6, 6, 6, 6, 6, 6, 6, 6, 6, 6, 6, 6, 6, 6, 6, 6, 6, 6, 6, 6, 6, 6, 6, 6, 6, 6, 7, 7, 7, 7, 7, 7, 7, 7, 7, 7, 7, 7, 7, 7, 7, 7, 7, 7, 7, 7, 7, 7, 7, 7, 7, 7, 7, 7, 7, 7, 7, 7, 7, 7, 7, 7, 7, 7, 7, 7, 7, 7, 7, 7, 7, 7, 7, 7, 7, 7, 7, 7, 7, 7, 7, 7, 7, 7, 7, 7, 7, 7, 7, 7, 8, 8, 8, 8, 8, 8, 8, 8, 8, 8, 8, 8, 8, 8, 8, 8, 8, 8, 8, 8, 8, 8, 8, 8, 8, 8, 8, 8, 8, 8, 8, 8, 8, 8, 8, 8, 8, 8, 8, 8, 8, 8, 8, 8, 8, 8, 8, 8, 8, 8, 8, 8, 8, 8, 8, 8, 8, 8, 8, 8, 8, 8, 8, 8, 8, 8, 8, 8, 8, 8, 8, 8, 8, 8, 8, 8, 8, 8, 8, 8, 8, 8, 8, 8, 8, 8, 8, 8, 8, 8, 8, 8, 8, 8, 8, 8, 8, 8, 8, 8, 8, 8, 8, 8, 8, 8, 8, 8, 8, 8, 8, 8, 8, 8, 8, 8, 8, 8, 8, 8, 8, 8, 8, 8, 8, 8, 8, 8]⟩⟩)
noncomputable def k57 : KFun := ⟨[rTmp (nat_lit 2) g2], (kSeq (oSet (xMove q30) p2 
oEnd) (kSeq (kSeq (oSet (xMove g0) p3 
(oSet (xLook (lkBin .geq g3 q84)) p4 
oEnd)) (kCond g4 (kSeq (oSet (xMove g0) p5 
(oSet (xLook (lkBin .shr g5 q85)) p6 
(oSet (xMove g6) p0 
oEnd))) (oSet (xMove q86) p2 
oEnd)) kSkip)) (kSeq (kSeq (oSet (xMove g0) p7 
(oSet (xLook (lkBin .geq g7 q87)) p8 
oEnd)) (kCond g8 (kSeq (oSet (xMove g0) p9 
(oSet (xLook (lkBin .shr g9 q88)) p10 
(oSet (xMove g10) p0 
oEnd))) (oSet (xMove g2) p11 
(oSet (xLook (lkBin .add g11 q69)) p12 
(oSet (xMove g12) p2 
oEnd)))) kSkip)) (kSeq (oSet (xMove g2) p13 
(oSet (xMove g0) p14 
(oSet (xLook (lkIntTo .u8 g14)) p15 
(oSet (xLook (lkIxStr q89 g15)) p16 
(oSet (xLook (lkIntTo .i64 g16)) p17 
(oSet (xLook (lkBin .add g13 g17)) p18 
(oSet (xMove g18) p2 
oEnd))))))) kRet))))⟩
def q90 : OpdF := kC (.int .u64 (.ofNat (nat_lit 4294967296)))
def q91 : OpdF := kC (.int .u64 (.ofNat (nat_lit 32)))
def q92 : OpdF := kC (.int .i64 (.ofNat (nat_lit 32)))
def q93 : OpdF := kC (.int .u64 (.ofNat (nat_lit 65536)))
def q94 : OpdF := kC (.int .u64 (.ofNat (nat_lit 256)))
noncomputable def k58 : KFun := ⟨[rTmp (nat_lit 2) g2], (kSeq (oSet (xMove q30) p2 
oEnd) (kSeq (kSeq (oSet (xMove g0) p3 
(oSet (xLook (lkBin .geq g3 q90)) p4 
oEnd)) (kCond g4 (kSeq (oSet (xMove g0) p5 
(oSet (xLook (lkBin .shr g5 q91)) p6 
(oSet (xMove g6) p0 
oEnd))) (oSet (xMove q92) p2 
oEnd)) kSkip)) (kSeq (kSeq (oSet (xMove g0) p7 
(oSet (xLook (lkBin .geq g7 q93)) p8 
oEnd)) (kCond g8 (kSeq (oSet (xMove g0) p9 
(oSet (xLook (lkBin .shr g9 q85)) p10 
(oSet (xMove g10) p0 
oEnd))) (oSet (xMove g2) p11 
(oSet (xLook (lkBin .add g11 q86)) p12 
(oSet (xMove g12) p2 
oEnd)))) kSkip)) (kSeq (kSeq (oSet (xMove g0) p13 
(oSet (xLook (lkBin .geq g13 q94)) p14 
oEnd)) (kCond g14 (kSeq (oSet (xMove g0) p15 
(oSet (xLook (lkBin .shr g15 q88)) p16 
(oSet (xMove g16) p0 
oEnd))) (oSet (xMove g2) p17 
(oSet (xLook (lkBin .add g17 q69)) p18 
(oSet (xMove g18) p2 
oEnd)))) kSkip)) (kSeq (oSet (xMove g2) p19 
(oSet (xMove g0) p20 
(oSet (xLook (lkIntTo .u8 g20)) p21 
(oSet (xLook (lkIxStr q89 g21)) p22 
(oSet (xLook (lkIntTo .i64 g22)) p23 
(oSet (xLook (lkBin .add g19 g23)) p24 
(oSet (xMove g24) p2 
oEnd))))))) kRet)))))⟩
noncomputable def k59d0 : KD := 
(dLook (nat_lit 21) [] [(nat_lit 19)] (lkPick g23 g39 q0) p40 (dEnd [(nat_lit 19), (nat_lit 20), (nat_lit 21), (nat_lit 22), (nat_lit 23), (nat_lit 24), (nat_lit 25), (nat_lit 26), (nat_lit 27), (nat_lit 28), (nat_lit 29), (nat_lit 30), (nat_lit 31), (nat_lit 32), (nat_lit 33), (nat_lit 34), (nat_lit 35), (nat_lit 36), (nat_lit 37), (nat_lit 38), (nat_lit 39), (nat_lit 40)]))
noncomputable def k59d1 : KD := 
(dIf [(nat_lit 19)] (wantT g23) p39 (dLook (nat_lit 20) [] [(nat_lit 19)] (lkBin .lss g38 q30) p39 k59d0) k59d0)
noncomputable def k59d2 : KD := 
(dIf [] (wantT g23) p38 (dTurn (nat_lit 19) [] [] true (xCall g24 [g30, g37]) p38 k59d1) k59d1)
noncomputable def k59d3 : KD := 
(dIf [] (wantT g23) p37 (dLook (nat_lit 18) [] [] (lkLoadN (nat_lit 2) g36) p37 k59d2) k59d2)
noncomputable def k59d4 : KD := 
(dIf [] (wantT g23) p36 (dLook (nat_lit 17) [] [] (lkIxSl (nat_lit 2) g31 g35) p36 k59d3) k59d3)
noncomputable def k59d5 : KD := 
(dIf [] (wantT g23) p35 (dLook (nat_lit 16) [] [] (lkBin .add g34 q18) p35 k59d4) k59d4)
noncomputable def k59d6 : KD := 
(dIf [] (wantT g23) p34 (dLook (nat_lit 15) [] [] (lkBin .add g32 g33) p34 k59d5) k59d5)
noncomputable def k59d7 : KD := 
(dIf [] (wantT g23) p33 (dLook (nat_lit 14) [] [] (lkMove g11) p33 k59d6) k59d6)
noncomputable def k59d8 : KD := 
(dIf [] (wantT g23) p32 (dLook (nat_lit 13) [] [] (lkMove g3) p32 k59d7) k59d7)
noncomputable def k59d9 : KD := 
(dIf [] (wantT g23) p31 (dLook (nat_lit 12) [] [] (lkMove g0) p31 k59d8) k59d8)
noncomputable def k59d10 : KD := 
(dIf [] (wantT g23) p30 (dLook (nat_lit 11) [] [] (lkLoadN (nat_lit 2) g29) p30 k59d9) k59d9)
noncomputable def k59d11 : KD := 
(dIf [] (wantT g23) p29 (dLook (nat_lit 10) [] [] (lkIxSl (nat_lit 2) g25 g28) p29 k59d10) k59d10)
noncomputable def k59d12 : KD := 
(dIf [] (wantT g23) p28 (dLook (nat_lit 9) [] [] (lkBin .add g26 g27) p28 k59d11) k59d11)
noncomputable def k59d13 : KD := 
(dIf [] (wantT g23) p27 (dLook (nat_lit 8) [] [] (lkMove g11) p27 k59d12) k59d12)
noncomputable def k59d14 : KD := 
(dIf [] (wantT g23) p26 (dLook (nat_lit 7) [] [] (lkMove g3) p26 k59d13) k59d13)
noncomputable def k59d15 : KD := 
(dIf [] (wantT g23) p25 (dLook (nat_lit 6) [] [] (lkMove g0) p25 k59d14) k59d14)
noncomputable def k59 : KFun := ⟨[], (kSeq (oSet (xMove g1) p12 
(oSet (xMove g12) p10 
oEnd)) (kBlock (nat_lit 0) (kLoop (kBlock (nat_lit 1) (kSeq (oSet (xMove g10) p13 
(oSet (xLook (lkBin .mul q4 g13)) p14 
(oSet (xLook (lkBin .add g14 q18)) p15 
(oSet (xMove g15) p11 
oEnd)))) (kSeq (kSeq (oSet (xMove g11) p16 
(oSet (xMove g2) p17 
(oSet (xLook (lkBin .geq g16 g17)) p18 
oEnd))) (kCond g18 (kExit (nat_lit 0)) kSkip)) (kSeq (kSeq (kDraw 
(dLook (nat_lit 0) [] [] (lkMove g11) p19 
(dLook (nat_lit 1) [] [] (lkBin .add g19 q18) p20 
(dLook (nat_lit 2) [] [] (lkMove g2) p21 
(dLook (nat_lit 3) [] [] (lkBin .lss g20 g21) p22 
(dLook (nat_lit 4) [] [] (lkMove g22) p23 
(dIf [] (wantT g23) p24 (dLook (nat_lit 5) [] [] (lkMove g4) p24 k59d15) k59d15))))))) (kCond g40 (oSet (xMove g11) p41 
(oSet (xLook (lkBin .add g41 q18)) p42 
(oSet (xMove g42) p11 
oEnd))) kSkip)) (kSeq (kSeq (kDraw 
(dLook (nat_lit 0) [] [] (lkMove g4) p43 
(dLook (nat_lit 1) [] [] (lkMove g0) p44 
(dLook (nat_lit 2) [] [] (lkMove g3) p45 
(dLook (nat_lit 3) [] [] (lkMove g10) p46 
(dLook (nat_lit 4) [] [] (lkBin .add g45 g46) p47 
(dLook (nat_lit 5) [] [] (lkIxSl (nat_lit 2) g44 g47) p48 
(dLook (nat_lit 6) [] [] (lkLoadN (nat_lit 2) g48) p49 
(dLook (nat_lit 7) [] [] (lkMove g0) p50 
(dLook (nat_lit 8) [] [] (lkMove g3) p51 
(dLook (nat_lit 9) [] [] (lkMove g11) p52 
(dLook (nat_lit 10) [] [] (lkBin .add g51 g52) p53 
(dLook (nat_lit 11) [] [] (lkIxSl (nat_lit 2) g50 g53) p54 
(dLook (nat_lit 12) [] [] (lkLoadN (nat_lit 2) g54) p55 
(dTurn (nat_lit 13) [] [] true (xCall g43 [g49, g55]) p56 
(dLook (nat_lit 14) [] [(nat_lit 13)] (lkBin .lss g56 q30) p57 
(dLook (nat_lit 15) [] [(nat_lit 13)] (lkUn .not g57) p58 (dEnd [(nat_lit 43), (nat_lit 44), (nat_lit 45), (nat_lit 46), (nat_lit 47), (nat_lit 48), (nat_lit 49), (nat_lit 50), (nat_lit 51), (nat_lit 52), (nat_lit 53), (nat_lit 54), (nat_lit 55), (nat_lit 56), (nat_lit 57), (nat_lit 58)])))))))))))))))))) (kCond g58 kRet kSkip)) (kSeq (kDraw 
(dLook (nat_lit 0) [] [] (lkMove g0) p59 
(dLook (nat_lit 1) [] [] (lkMove g3) p60 
(dLook (nat_lit 2) [] [] (lkMove g10) p61 
(dLook (nat_lit 3) [] [] (lkBin .add g60 g61) p62 
(dLook (nat_lit 4) [] [] (lkMove g0) p63 
(dLook (nat_lit 5) [] [] (lkMove g3) p64 
(dLook (nat_lit 6) [] [] (lkMove g11) p65 
(dLook (nat_lit 7) [] [] (lkBin .add g64 g65) p66 
(dLook (nat_lit 8) [] [] (lkMove g0) p67 
(dLook (nat_lit 9) [] [] (lkMove g3) p68 
(dLook (nat_lit 10) [] [] (lkMove g11) p69 
(dLook (nat_lit 11) [] [] (lkBin .add g68 g69) p70 
(dLook (nat_lit 12) [] [] (lkIxSl (nat_lit 2) g67 g70) p71 
(dLook (nat_lit 13) [] [] (lkLoadN (nat_lit 2) g71) p72 
(dLook (nat_lit 14) [] [] (lkMove g0) p73 
(dLook (nat_lit 15) [] [] (lkMove g3) p74 
(dLook (nat_lit 16) [] [] (lkMove g10) p75 
(dLook (nat_lit 17) [] [] (lkBin .add g74 g75) p76 
(dLook (nat_lit 18) [] [] (lkIxSl (nat_lit 2) g73 g76) p77 
(dLook (nat_lit 19) [] [] (lkLoadN (nat_lit 2) g77) p78 
(dLook (nat_lit 20) [] [] (lkIxSl (nat_lit 2) g59 g62) p79 
(dTurn (nat_lit 21) [] [] true (xTurn (tnStore (nat_lit 2) g79 g72)) noDst 
(dLook (nat_lit 22) [] [(nat_lit 21)] (lkIxSl (nat_lit 2) g63 g66) p80 
(dTurn (nat_lit 23) [] [(nat_lit 21)] true (xTurn (tnStore (nat_lit 2) g80 g78)) noDst (dEnd [(nat_lit 59), (nat_lit 60), (nat_lit 61), (nat_lit 62), (nat_lit 63), (nat_lit 64), (nat_lit 65), (nat_lit 66), (nat_lit 67), (nat_lit 68), (nat_lit 69), (nat_lit 70), (nat_lit 71), (nat_lit 72), (nat_lit 73), (nat_lit 74), (nat_lit 75), (nat_lit 76), (nat_lit 77), (nat_lit 78), (nat_lit 79), (nat_lit 80)])))))))))))))))))))))))))) (oSet (xMove g11) p81 
(oSet (xMove g81) p10 
oEnd)))))))))))⟩
def q95 : OpdF := kC (.int .u64 (.ofNat (nat_lit 0)))
noncomputable def k60 : KFun := ⟨[rTmp (nat_lit 2) g2], (kSeq (oSet (xMove q95) p2 
oEnd) (kSeq (oSet (xMove g0) p3 
(oSet (xLook (lkIntTo .u64 g3)) p4 
(oSet (xCall q54 [g4]) p5 
(oSet (xLook (lkBin .shl q77 g5)) p6 
(oSet (xMove g6) p2 
oEnd))))) kRet))⟩
def q96 : OpdF := kC (.int .u64 (.ofNat (nat_lit 13)))
def q97 : OpdF := kC (.int .u64 (.ofNat (nat_lit 7)))
def q98 : OpdF := kC (.int .u64 (.ofNat (nat_lit 17)))
noncomputable def k61 : KFun := ⟨[rTmp (nat_lit 2) g2], (kSeq (oSet (xMove q95) p2 
oEnd) (kSeq (kDraw 
(dLook (nat_lit 0) [] [] (lkMove g0) p3 
(dTurn (nat_lit 1) [] [] false (xNil g3) p4 
(dLook (nat_lit 2) [] [] (lkLoad1 g4) p5 
(dLook (nat_lit 3) [] [] (lkMove g0) p6 
(dTurn (nat_lit 4) [] [] false (xNil g6) p7 
(dLook (nat_lit 5) [] [] (lkLoad1 g7) p8 
(dLook (nat_lit 6) [] [] (lkBin .shl g8 q96) p9 
(dLook (nat_lit 7) [] [] (lkBin .xor g5 g9) p10 
(dTurn (nat_lit 8) [] [] false (xNil g3) p11 
(dTurn (nat_lit 9) [] [] true (xTurn (tnStore (nat_lit 1) g11 g10)) noDst (dEnd [(nat_lit 3), (nat_lit 4), (nat_lit 5), (nat_lit 6), (nat_lit 7), (nat_lit 8), (nat_lit 9), (nat_lit 10), (nat_lit 11)])))))))))))) (kSeq (kDraw 
(dLook (nat_lit 0) [] [] (lkMove g0) p12 
(dTurn (nat_lit 1) [] [] false (xNil g12) p13 
(dLook (nat_lit 2) [] [] (lkLoad1 g13) p14 
(dLook (nat_lit 3) [] [] (lkMove g0) p15 
(dTurn (nat_lit 4) [] [] false (xNil g15) p16 
(dLook (nat_lit 5) [] [] (lkLoad1 g16) p17 
(dLook (nat_lit 6) [] [] (lkBin .shr g17 q97) p18 
(dLook (nat_lit 7) [] [] (lkBin .xor g14 g18) p19 
(dTurn (nat_lit 8) [] [] false (xNil g12) p20 
(dTurn (nat_lit 9) [] [] true (xTurn (tnStore (nat_lit 1) g20 g19)) noDst (dEnd [(nat_lit 12), (nat_lit 13), (nat_lit 14), (nat_lit 15), (nat_lit 16), (nat_lit 17), (nat_lit 18), (nat_lit 19), (nat_lit 20)])))))))))))) (kSeq (kDraw 
(dLook (nat_lit 0) [] [] (lkMove g0) p21 
(dTurn (nat_lit 1) [] [] false (xNil g21) p22 
(dLook (nat_lit 2) [] [] (lkLoad1 g22) p23 
(dLook (nat_lit 3) [] [] (lkMove g0) p24 
(dTurn (nat_lit 4) [] [] false (xNil g24) p25 
(dLook (nat_lit 5) [] [] (lkLoad1 g25) p26 
(dLook (nat_lit 6) [] [] (lkBin .shl g26 q98) p27 
(dLook (nat_lit 7) [] [] (lkBin .xor g23 g27) p28 
(dTurn (nat_lit 8) [] [] false (xNil g21) p29 
(dTurn (nat_lit 9) [] [] true (xTurn (tnStore (nat_lit 1) g29 g28)) noDst (dEnd [(nat_lit 21), (nat_lit 22), (nat_lit 23), (nat_lit 24), (nat_lit 25), (nat_lit 26), (nat_lit 27), (nat_lit 28), (nat_lit 29)])))))))))))) (kSeq (oSet (xMove g0) p30 
(oSet (xNil g30) p31 
(oSet (xLook (lkLoad1 g31)) p32 
(oSet (xMove g32) p2 
oEnd)))) kRet)))))⟩
noncomputable def k62 : KFun := ⟨[rTmp (nat_lit 8) g8], (kSeq (oSet (xMove q30) p8 
oEnd) (kSeq (oSet (xMove g0) p9 
(oSet (xMove g1) p10 
(oSet (xLook (lkBin .sub g10 q18)) p11 
(oSet (xMove g1) p12 
(oSet (xMove g1) p13 
(oSet (xLook (lkBin .add g13 q18)) p14 
(oSet (xMove g2) p15 
(oSet (xMove g3) p16 
(oSet (xCall q82 [g9, g11, g12, g14, g15, g16]) p17 
(oSet (xMove g17) p8 
oEnd)))))))))) kRet))⟩
def q99 : OpdF := kC (.func (.func (nat_lit 64)) ⟨[]⟩ ⟨[]⟩)
noncomputable def k63 : KFun := ⟨[rTmp (nat_lit 12) g12], (kSeq (oSet (xMove q30) p12 
oEnd) (kSeq (oSet (xMove g0) p14 
(oSet (xMove g1) p15 
(oSet (xMove g2) p16 
(oSet (xMove g4) p17 
(oSet (xMove g5) p18 
(oSet (xCall q99 [g14, g15, g16, g17, g18]) p19 
(oSet (xMove g19) p13 
(oSet (xLook (lkExtract (nat_lit 0) g13)) p20 
(oSet (xLook (lkExtract (nat_lit 1) g13)) p21 
(oSet (xMove g20) p1 
(oSet (xMove g21) p2 
oEnd))))))))))) (kSeq (oSet (xMove g0) p23 
(oSet (xMove g2) p24 
(oSet (xMove g3) p25 
(oSet (xMove g4) p26 
(oSet (xMove g5) p27 
(oSet (xCall q99 [g23, g24, g25, g26, g27]) p28 
(oSet (xMove g28) p22 
(oSet (xLook (lkExtract (nat_lit 0) g22)) p29 
(oSet (xLook (lkExtract (nat_lit 1) g22)) p30 
(oSet (xMove g29) p2 
(oSet (xMove g30) p3 
oEnd))))))))))) (kSeq (oSet (xMove g0) p32 
(oSet (xMove g1) p33 
(oSet (xMove g2) p34 
(oSet (xMove g4) p35 
(oSet (xMove g5) p36 
(oSet (xCall q99 [g32, g33, g34, g35, g36]) p37 
(oSet (xMove g37) p31 
(oSet (xLook (lkExtract (nat_lit 0) g31)) p38 
(oSet (xLook (lkExtract (nat_lit 1) g31)) p39 
(oSet (xMove g38) p1 
(oSet (xMove g39) p2 
oEnd))))))))))) (kSeq (oSet (xMove g2) p40 
(oSet (xMove g40) p12 
oEnd)) kRet)))))⟩
noncomputable def k64 : KFun := ⟨[rTmp (nat_lit 10) g10, rTmp (nat_lit 11) g11], (kSeq (oSet (xMove q30) p10 
(oSet (xMove q30) p11 
oEnd)) (kSeq (kSeq (kDraw 
(dLook (nat_lit 0) [] [] (lkMove g4) p12 
(dLook (nat_lit 1) [] [] (lkMove g0) p13 
(dLook (nat_lit 2) [] [] (lkMove g2) p14 
(dLook (nat_lit 3) [] [] (lkIxSl (nat_lit 2) g13 g14) p15 
(dLook (nat_lit 4) [] [] (lkLoadN (nat_lit 2) g15) p16 
(dLook (nat_lit 5) [] [] (lkMove g0) p17 
(dLook (nat_lit 6) [] [] (lkMove g1) p18 
(dLook (nat_lit 7) [] [] (lkIxSl (nat_lit 2) g17 g18) p19 
(dLook (nat_lit 8) [] [] (lkLoadN (nat_lit 2) g19) p20 
(dTurn (nat_lit 9) [] [] true (xCall g12 [g16, g20]) p21 
(dLook (nat_lit 10) [] [(nat_lit 9)] (lkBin .lss g21 q30) p22 (dEnd [(nat_lit 12), (nat_lit 13), (nat_lit 14), (nat_lit 15), (nat_lit 16), (nat_lit 17), (nat_lit 18), (nat_lit 19), (nat_lit 20), (nat_lit 21), (nat_lit 22)]))))))))))))) (kCond g22 (kSeq (oSet (xMove g3) p23 
(oSet (xNil g23) p24 
(oSet (xLook (lkLoad1 g24)) p25 
(oSet (xLook (lkBin .add g25 q18)) p26 
(oSet (xNil g23) p27 
(oDo (xTurn (tnStore (nat_lit 1) g27 g26)) 
oEnd)))))) (kSeq (oSet (xMove g2) p28 
(oSet (xMove g1) p29 
(oSet (xMove g28) p10 
(oSet (xMove g29) p11 
oEnd)))) kRet)) kSkip)) (kSeq (oSet (xMove g1) p30 
(oSet (xMove g2) p31 
(oSet (xMove g30) p10 
(oSet (xMove g31) p11 
oEnd)))) kRet)))⟩
noncomputable def tab : Tr KFun := (.node none (.node none (.node (some k3) (.node (some k7) (.node (some k15) (.node (some k31) (.node (some k63) .nil .nil) .nil) (.node (some k47) .nil .nil)) (.node (some k23) (.node (some k39) .nil .nil) (.node (some k55) .nil .nil))) (.node (some k11) (.node (some k19) (.node (some k35) .nil .nil) (.node (some k51) .nil .nil)) (.node (some k27) (.node (some k43) .nil .nil) (.node (some k59) .nil .nil)))) (.node (some k5) (.node (some k9) (.node (some k17) (.node (some k33) .nil .nil) (.node (some k49) .nil .nil)) (.node (some k25) (.node (some k41) .nil .nil) (.node (some k57) .nil .nil))) (.node (some k13) (.node (some k21) (.node (some k37) .nil .nil) (.node (some k53) .nil .nil)) (.node (some k29) (.node (some k45) .nil .nil) (.node (some k61) .nil .nil))))) (.node none (.node (some k4) (.node none (.node (some k16) (.node (some k32) (.node (some k64) .nil .nil) .nil) (.node (some k48) .nil .nil)) (.node (some k24) (.node (some k40) .nil .nil) (.node (some k56) .nil .nil))) (.node (some k12) (.node (some k20) (.node (some k36) .nil .nil) (.node (some k52) .nil .nil)) (.node (some k28) (.node (some k44) .nil .nil) (.node (some k60) .nil .nil)))) (.node (some k6) (.node (some k10) (.node (some k18) (.node (some k34) .nil .nil) (.node (some k50) .nil .nil)) (.node (some k26) (.node (some k42) .nil .nil) (.node (some k58) .nil .nil))) (.node (some k14) (.node (some k22) (.node (some k38) .nil .nil) (.node (some k54) .nil .nil)) (.node (some k30) (.node (some k46) .nil .nil) (.node (some k62) .nil .nil))))))
end Go.Proofs.Ytfknpknbgfkbdaa.Eng
