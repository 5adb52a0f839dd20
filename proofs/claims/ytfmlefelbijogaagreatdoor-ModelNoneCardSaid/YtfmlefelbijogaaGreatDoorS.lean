/-
  The functions that the law reaches, as the abstract machine runs them, printed by program. No condition.
-/
import Derived.Test.YtfmlefelbijogaaGreatDoorS0
namespace Go.Proofs.YtfmlefelbijogaaGreatDoor.Eng
open Go Go.Eng
set_option linter.unusedVariables false
set_option maxRecDepth 100000

noncomputable def k291 : KFun := ⟨[rTmp (nat_lit 4) g4], (kSeq (oSet (xMove q25) p4 
oEnd) (kSeq (kSeq (oSet (xMove g0) p5 
(oSet (xMove g1) p6 
(oSet (xNil g5) p7 
(oSet (xLook (lkFieldAddr (nat_lit 0) g7)) p8 
(oSet (xLook (lkFieldAddr (nat_lit 0) g8)) p9 
(oSet (xLook (lkIxArr (nat_lit 8) (nat_lit 1) g9 g6)) p10 
(oSet (xLook (lkLoad1 g10)) p11 
(oSet (xCall q272 [g11]) p12 
(oSet (xLook (lkUn .not g12)) p13 
oEnd))))))))) (kCond g13 (oSet (xLook (lkBuild q36 [((nat_lit 0), (nat_lit 1), q66)])) p14 
(oSet (xLook (lkMkIface (nat_lit 317) g14)) p15 
(oDo (xPanic g15) 
oEnd))) kSkip)) (kSeq (oSet (xMove g0) p16 
(oSet (xMove g1) p17 
(oSet (xNil g16) p18 
(oSet (xLook (lkFieldAddr (nat_lit 0) g18)) p19 
(oSet (xLook (lkFieldAddr (nat_lit 0) g19)) p20 
(oSet (xLook (lkIxArr (nat_lit 8) (nat_lit 1) g20 g17)) p21 
(oSet (xLook (lkLoad1 g21)) p22 
(oSet (xMove g22) p4 
oEnd)))))))) kRet)))⟩
noncomputable def k293 : KFun := ⟨[], (kSeq (oSet (xTurn (tnBox g1)) p3 
oEnd) (kDraw 
(dLook (nat_lit 0) [] [] (lkMove g0) p4 
(dTurn (nat_lit 1) [] [] false (xNil g4) p5 
(dLook (nat_lit 2) [] [] (lkFieldAddr (nat_lit 0) g5) p6 
(dLook (nat_lit 3) [] [] (lkLoad1 g6) p7 
(dLook (nat_lit 4) [] [] (lkFieldAddr (nat_lit 0) g3) p8 
(dLook (nat_lit 5) [] [] (lkLoad1 g8) p9 
(dLook (nat_lit 6) [] [] (lkLoadN (nat_lit 3) g3) p10 
(dTurn (nat_lit 7) [] [] true (xTurn (tnMapUpdate (.one .str) g7 g9 g10)) noDst (dEnd [(nat_lit 4), (nat_lit 5), (nat_lit 6), (nat_lit 7), (nat_lit 8), (nat_lit 9), (nat_lit 10)])))))))))))⟩
noncomputable def k300 : KFun := ⟨[rTmp (nat_lit 4) g4], (kSeq (oSet (xMove q6) p4 
oEnd) (kSeq (kSeq (oSet (xMove g0) p6 
(oSet (xLook (lkLen .sl g6)) p7 
(oSet (xMove q6) p8 
oEnd))) (kBlock (nat_lit 0) (kLoop (kSeq (oSet (xLook (lkBin .lss g8 g7)) p9 
oEnd) (kSeq (kCond g9 kSkip (kExit (nat_lit 0))) (kSeq (kBlock (nat_lit 1) (kSeq (oSet (xMove g8) p10 
(oSet (xMove g10) p5 
oEnd)) (kSeq (oSet (xMove g1) p11 
(oSet (xMove g0) p12 
(oSet (xMove g5) p13 
(oSet (xLook (lkIxSl (nat_lit 2) g12 g13)) p14 
(oSet (xLook (lkLoadN (nat_lit 2) g14)) p15 
(oSet (xCall g11 [g15]) p16 
oEnd)))))) (kCond g16 (kSeq (oSet (xMove g5) p17 
(oSet (xMove g17) p4 
oEnd)) kRet) kSkip)))) (oSet (xLook (lkBin .add g8 q10)) p18 
(oSet (xMove g18) p8 
oEnd)))))))) (kSeq (oSet (xMove q33) p4 
oEnd) kRet)))⟩
def q535 : OpdF := kC (.func (.func (nat_lit 316)) ⟨[]⟩ ⟨[]⟩)
def q536 : OpdF := kC (.func (.func (nat_lit 317)) ⟨[]⟩ ⟨[]⟩)
def q537 : OpdF := kC (.func (.func (nat_lit 318)) ⟨[]⟩ ⟨[]⟩)
def q538 : OpdF := kC (.func (.func (nat_lit 319)) ⟨[]⟩ ⟨[]⟩)
def q539 : OpdF := kC (.func (.func (nat_lit 320)) ⟨[]⟩ ⟨[]⟩)
def q540 : OpdF := kC (.func (.func (nat_lit 321)) ⟨[]⟩ ⟨[]⟩)
noncomputable def k301d0 : KD := 
(dLook (nat_lit 16) [] [(nat_lit 13)] (lkPick g83 g96 q0) p97 (dEnd [(nat_lit 81), (nat_lit 82), (nat_lit 83), (nat_lit 84), (nat_lit 85), (nat_lit 86), (nat_lit 87), (nat_lit 88), (nat_lit 89), (nat_lit 90), (nat_lit 91), (nat_lit 92), (nat_lit 93), (nat_lit 94), (nat_lit 95), (nat_lit 96), (nat_lit 97)]))
noncomputable def k301d1 : KD := 
(dIf [(nat_lit 13)] (wantT g83) p96 (dLook (nat_lit 15) [] [(nat_lit 13)] (lkUn .not g95) p96 k301d0) k301d0)
noncomputable def k301d2 : KD := 
(dIf [(nat_lit 13)] (wantT g83) p95 (dLook (nat_lit 14) [] [(nat_lit 13)] (lkBin .lss g94 q6) p95 k301d1) k301d1)
noncomputable def k301d3 : KD := 
(dIf [] (wantT g83) p94 (dTurn (nat_lit 13) [] [] true (xCall g84 [g89, g93]) p94 k301d2) k301d2)
noncomputable def k301d4 : KD := 
(dIf [] (wantT g83) p93 (dLook (nat_lit 12) [] [] (lkLoadN (nat_lit 2) g92) p93 k301d3) k301d3)
noncomputable def k301d5 : KD := 
(dIf [] (wantT g83) p92 (dLook (nat_lit 11) [] [] (lkIxSl (nat_lit 2) g90 g91) p92 k301d4) k301d4)
noncomputable def k301d6 : KD := 
(dIf [] (wantT g83) p91 (dLook (nat_lit 10) [] [] (lkMove g13) p91 k301d5) k301d5)
noncomputable def k301d7 : KD := 
(dIf [] (wantT g83) p90 (dLook (nat_lit 9) [] [] (lkMove g0) p90 k301d6) k301d6)
noncomputable def k301d8 : KD := 
(dIf [] (wantT g83) p89 (dLook (nat_lit 8) [] [] (lkLoadN (nat_lit 2) g88) p89 k301d7) k301d7)
noncomputable def k301d9 : KD := 
(dIf [] (wantT g83) p88 (dLook (nat_lit 7) [] [] (lkIxSl (nat_lit 2) g85 g87) p88 k301d8) k301d8)
noncomputable def k301d10 : KD := 
(dIf [] (wantT g83) p87 (dLook (nat_lit 6) [] [] (lkBin .sub g86 q10) p87 k301d9) k301d9)
noncomputable def k301d11 : KD := 
(dIf [] (wantT g83) p86 (dLook (nat_lit 5) [] [] (lkMove g1) p86 k301d10) k301d10)
noncomputable def k301d12 : KD := 
(dIf [] (wantT g83) p85 (dLook (nat_lit 4) [] [] (lkMove g0) p85 k301d11) k301d11)
def q541 : OpdF := kC (.func (.func (nat_lit 322)) ⟨[]⟩ ⟨[]⟩)
def q542 : OpdF := kC (.func (.func (nat_lit 323)) ⟨[]⟩ ⟨[]⟩)
noncomputable def k301 : KFun := ⟨[], (kSeq (oSet (xMove q2) p10 
oEnd) (kSeq (oSet (xMove q2) p11 
oEnd) (kBlock (nat_lit 0) (kLoop (kBlock (nat_lit 1) (kSeq (oSet (xMove g2) p21 
(oSet (xMove g1) p22 
(oSet (xLook (lkBin .sub g21 g22)) p23 
(oSet (xMove g23) p12 
oEnd)))) (kSeq (kSeq (oSet (xMove g12) p24 
(oSet (xLook (lkBin .leq g24 q121)) p25 
oEnd)) (kCond g25 (kSeq (oSet (xMove g0) p26 
(oSet (xMove g1) p27 
(oSet (xMove g2) p28 
(oSet (xMove g4) p29 
(oSet (xCall q535 [g26, g27, g28, g29]) p30 
oEnd))))) kRet) kSkip)) (kSeq (kSeq (oSet (xMove g3) p31 
(oSet (xLook (lkEq false .int g31 q6)) p32 
oEnd)) (kCond g32 (kSeq (oSet (xMove g0) p33 
(oSet (xMove g1) p34 
(oSet (xMove g2) p35 
(oSet (xMove g4) p36 
(oSet (xCall q536 [g33, g34, g35, g36]) p37 
oEnd))))) kRet) kSkip)) (kSeq (kSeq (oSet (xMove g10) p38 
(oSet (xLook (lkUn .not g38)) p39 
oEnd)) (kCond g39 (kSeq (oSet (xMove g0) p40 
(oSet (xMove g1) p41 
(oSet (xMove g2) p42 
(oSet (xMove g4) p43 
(oSet (xCall q537 [g40, g41, g42, g43]) p44 
oEnd))))) (oSet (xMove g3) p45 
(oSet (xLook (lkBin .sub g45 q10)) p46 
(oSet (xMove g46) p3 
oEnd)))) kSkip)) (kSeq (oSet (xMove g0) p48 
(oSet (xMove g1) p49 
(oSet (xMove g2) p50 
(oSet (xMove g4) p51 
(oSet (xCall q538 [g48, g49, g50, g51]) p52 
(oSet (xMove g52) p47 
(oSet (xLook (lkExtract (nat_lit 0) g47)) p53 
(oSet (xLook (lkExtract (nat_lit 1) g47)) p54 
(oSet (xMove g53) p13 
(oSet (xMove g54) p14 
oEnd)))))))))) (kSeq (kSeq (oSet (xMove g14) p55 
(oSet (xLook (lkEq false .int g55 q20)) p56 
oEnd)) (kCond g56 (kSeq (oSet (xMove g0) p57 
(oSet (xMove g1) p58 
(oSet (xMove g2) p59 
(oSet (xMove g4) p60 
(oSet (xCall q539 [g57, g58, g59, g60]) p61 
oEnd))))) (kSeq (oSet (xMove g2) p62 
(oSet (xLook (lkBin .sub g62 q10)) p63 
(oSet (xMove g13) p64 
(oSet (xMove g1) p65 
(oSet (xLook (lkBin .sub g64 g65)) p66 
(oSet (xLook (lkBin .sub g63 g66)) p67 
(oSet (xMove g67) p13 
oEnd))))))) (oSet (xMove q10) p14 
oEnd))) kSkip)) (kSeq (kSeq (oSet (xMove g10) p68 
(oSet (xMove g68) p69 
(oSetIf (wantT g69) (xMove g11) p70 
(oSet (xLook (lkPick g69 g70 q0)) p71 
(oSet (xMove g71) p72 
(oSetIf (wantT g72) (xMove g14) p73 
(oSetIf (wantT g72) (xLook (lkEq false .int g73 q10)) p74 
(oSet (xLook (lkPick g72 g74 q0)) p75 
oEnd)))))))) (kCond g75 (kSeq (oSet (xMove g0) p76 
(oSet (xMove g1) p77 
(oSet (xMove g2) p78 
(oSet (xMove g4) p79 
(oSet (xCall q540 [g76, g77, g78, g79]) p80 
oEnd))))) (kCond g80 kRet kSkip)) kSkip)) (kSeq (kSeq (kDraw 
(dLook (nat_lit 0) [] [] (lkMove g1) p81 
(dLook (nat_lit 1) [] [] (lkBin .gtr g81 q6) p82 
(dLook (nat_lit 2) [] [] (lkMove g82) p83 
(dIf [] (wantT g83) p84 (dLook (nat_lit 3) [] [] (lkMove g4) p84 k301d12) k301d12))))) (kCond g97 (kSeq (oSet (xMove g0) p98 
(oSet (xMove g1) p99 
(oSet (xMove g2) p100 
(oSet (xMove g13) p101 
(oSet (xMove g4) p102 
(oSet (xCall q541 [g98, g99, g100, g101, g102]) p103 
(oSet (xMove g103) p15 
oEnd))))))) (kSeq (oSet (xMove g15) p104 
(oSet (xMove g104) p1 
oEnd)) (kExit (nat_lit 1)))) kSkip)) (kSeq (oSet (xMove g0) p106 
(oSet (xMove g1) p107 
(oSet (xMove g2) p108 
(oSet (xMove g13) p109 
(oSet (xMove g4) p110 
(oSet (xCall q542 [g106, g107, g108, g109, g110]) p111 
(oSet (xMove g111) p105 
(oSet (xLook (lkExtract (nat_lit 0) g105)) p112 
(oSet (xLook (lkExtract (nat_lit 1) g105)) p113 
(oSet (xMove g112) p16 
(oSet (xMove g113) p17 
oEnd))))))))))) (kSeq (oSet (xMove g17) p114 
(oSet (xMove g114) p11 
oEnd)) (kSeq (oSet (xMove g16) p115 
(oSet (xMove g1) p116 
(oSet (xLook (lkBin .sub g115 g116)) p117 
(oSet (xMove g2) p118 
(oSet (xMove g16) p119 
(oSet (xLook (lkBin .sub g118 g119)) p120 
(oSet (xMove g117) p18 
(oSet (xMove g120) p19 
oEnd)))))))) (kSeq (oSet (xMove g12) p121 
(oSet (xLook (lkBin .quo g121 q35)) p122 
(oSet (xMove g122) p20 
oEnd))) (kSeq (oSet (xMove g18) p123 
(oSet (xMove g19) p124 
(oSet (xLook (lkBin .lss g123 g124)) p125 
oEnd))) (kCond g125 (kSeq (oSet (xMove g18) p126 
(oSet (xMove g20) p127 
(oSet (xLook (lkBin .geq g126 g127)) p128 
(oSet (xMove g128) p10 
oEnd)))) (kSeq (oSet (xMove g0) p129 
(oSet (xMove g1) p130 
(oSet (xMove g16) p131 
(oSet (xMove g3) p132 
(oSet (xMove g4) p133 
(oSet (xCall q442 [g129, g130, g131, g132, g133]) p134 
oEnd)))))) (oSet (xMove g16) p135 
(oSet (xLook (lkBin .add g135 q10)) p136 
(oSet (xMove g136) p1 
oEnd))))) (kSeq (oSet (xMove g19) p137 
(oSet (xMove g20) p138 
(oSet (xLook (lkBin .geq g137 g138)) p139 
(oSet (xMove g139) p10 
oEnd)))) (kSeq (oSet (xMove g0) p140 
(oSet (xMove g16) p141 
(oSet (xLook (lkBin .add g141 q10)) p142 
(oSet (xMove g2) p143 
(oSet (xMove g3) p144 
(oSet (xMove g4) p145 
(oSet (xCall q442 [g140, g142, g143, g144, g145]) p146 
oEnd))))))) (oSet (xMove g16) p147 
(oSet (xMove g147) p2 
oEnd)))))))))))))))))))))))⟩
noncomputable def k302 : KFun := ⟨[], (kSeq (oSet (xLook (lkLoad1 g1)) p4 
(oSet (xTurn (tnRangeMap g4)) p5 
oEnd)) (kBlock (nat_lit 0) (kLoop (kSeq (oSet (xNextMap g5) p6 
(oSet (xLook (lkExtract (nat_lit 0) g6)) p7 
oEnd)) (kSeq (kCond g7 kSkip (kExit (nat_lit 0))) (kBlock (nat_lit 1) (kSeq (oSet (xLook (lkEntry g5)) p8 
(oSet (xLook (lkExtract (nat_lit 0) g8)) p9 
(oSet (xMove g9) p3 
oEnd))) (kSeq (oSet (xMove g0) p10 
(oSet (xMove g3) p11 
(oSet (xCall g10 [g11]) p12 
(oSet (xLook (lkUn .not g12)) p13 
oEnd)))) (kCond g13 kRet kSkip)))))))))⟩
def q550 : OpdF := kC (.int .i64 (.ofNat (nat_lit 78913)))
noncomputable def k309 : KFun := ⟨[rTmp (nat_lit 2) g2], (kSeq (oSet (xMove q6) p2 
oEnd) (kSeq (oSet (xMove g0) p3 
(oSet (xLook (lkBin .mul g3 q550)) p4 
(oSet (xLook (lkBin .shr g4 q316)) p5 
(oSet (xMove g5) p2 
oEnd)))) kRet))⟩
noncomputable def k310 : KFun := ⟨[rTmp (nat_lit 2) g2], (kSeq (oSet (xMove q6) p2 
oEnd) (kSeq (kSeq (oSet (xMove g0) p3 
oEnd) (kCond g3 (kSeq (oSet (xMove q10) p2 
oEnd) kRet) kSkip)) (kSeq (oSet (xMove q6) p2 
oEnd) kRet)))⟩
noncomputable def k311 : KFun := ⟨[rTmp (nat_lit 2) g2], (kSeq (oSet (xMove q0) p2 
oEnd) (kSeq (oSet (xMove g0) p3 
(oSet (xMove g0) p4 
(oSet (xLook (lkBin .sub g4 q10)) p5 
(oSet (xLook (lkBin .and g3 g5)) p6 
(oSet (xLook (lkEq false .int g6 q6)) p7 
(oSet (xMove g7) p2 
oEnd)))))) kRet))⟩
def q551 : OpdF := kC (.func (.func (nat_lit 331)) ⟨[]⟩ ⟨[]⟩)
def q552 : OpdF := kC (.func (.func (nat_lit 332)) ⟨[]⟩ ⟨[]⟩)
noncomputable def k312 : KFun := ⟨[rTmp (nat_lit 2) g2], (kSeq (oSet (xMove q6) p2 
oEnd) (kSeq (kCond q0 (kSeq (oSet (xMove g0) p3 
(oSet (xLook (lkIntTo .u32 g3)) p4 
(oSet (xCall q551 [g4]) p5 
(oSet (xMove g5) p2 
oEnd)))) kRet) kSkip) (kSeq (oSet (xMove g0) p6 
(oSet (xCall q552 [g6]) p7 
(oSet (xMove g7) p2 
oEnd))) kRet)))⟩
noncomputable def k316d0 : KD := 
(dLook (nat_lit 16) [] [(nat_lit 14)] (lkPick g21 g33 q0) p34 (dEnd [(nat_lit 18), (nat_lit 19), (nat_lit 20), (nat_lit 21), (nat_lit 22), (nat_lit 23), (nat_lit 24), (nat_lit 25), (nat_lit 26), (nat_lit 27), (nat_lit 28), (nat_lit 29), (nat_lit 30), (nat_lit 31), (nat_lit 32), (nat_lit 33), (nat_lit 34)]))
noncomputable def k316d1 : KD := 
(dIf [(nat_lit 14)] (wantT g21) p33 (dLook (nat_lit 15) [] [(nat_lit 14)] (lkBin .lss g32 q6) p33 k316d0) k316d0)
noncomputable def k316d2 : KD := 
(dIf [] (wantT g21) p32 (dTurn (nat_lit 14) [] [] true (xCall g22 [g26, g31]) p32 k316d1) k316d1)
noncomputable def k316d3 : KD := 
(dIf [] (wantT g21) p31 (dLook (nat_lit 13) [] [] (lkLoadN (nat_lit 2) g30) p31 k316d2) k316d2)
noncomputable def k316d4 : KD := 
(dIf [] (wantT g21) p30 (dLook (nat_lit 12) [] [] (lkIxSl (nat_lit 2) g27 g29) p30 k316d3) k316d3)
noncomputable def k316d5 : KD := 
(dIf [] (wantT g21) p29 (dLook (nat_lit 11) [] [] (lkBin .sub g28 q10) p29 k316d4) k316d4)
noncomputable def k316d6 : KD := 
(dIf [] (wantT g21) p28 (dLook (nat_lit 10) [] [] (lkMove g9) p28 k316d5) k316d5)
noncomputable def k316d7 : KD := 
(dIf [] (wantT g21) p27 (dLook (nat_lit 9) [] [] (lkMove g0) p27 k316d6) k316d6)
noncomputable def k316d8 : KD := 
(dIf [] (wantT g21) p26 (dLook (nat_lit 8) [] [] (lkLoadN (nat_lit 2) g25) p26 k316d7) k316d7)
noncomputable def k316d9 : KD := 
(dIf [] (wantT g21) p25 (dLook (nat_lit 7) [] [] (lkIxSl (nat_lit 2) g23 g24) p25 k316d8) k316d8)
noncomputable def k316d10 : KD := 
(dIf [] (wantT g21) p24 (dLook (nat_lit 6) [] [] (lkMove g9) p24 k316d9) k316d9)
noncomputable def k316d11 : KD := 
(dIf [] (wantT g21) p23 (dLook (nat_lit 5) [] [] (lkMove g0) p23 k316d10) k316d10)
noncomputable def k316 : KFun := ⟨[], (kSeq (oSet (xMove g1) p10 
(oSet (xLook (lkBin .add g10 q10)) p11 
(oSet (xMove g11) p8 
oEnd))) (kBlock (nat_lit 0) (kLoop (kSeq (kSeq (oSet (xMove g8) p12 
(oSet (xMove g2) p13 
(oSet (xLook (lkBin .lss g12 g13)) p14 
oEnd))) (kCond g14 kSkip (kExit (nat_lit 0)))) (kSeq (kBlock (nat_lit 1) (kSeq (oSet (xMove g8) p17 
(oSet (xMove g17) p9 
oEnd)) (kBlock (nat_lit 2) (kLoop (kSeq (kSeq (kDraw 
(dLook (nat_lit 0) [] [] (lkMove g9) p18 
(dLook (nat_lit 1) [] [] (lkMove g1) p19 
(dLook (nat_lit 2) [] [] (lkBin .gtr g18 g19) p20 
(dLook (nat_lit 3) [] [] (lkMove g20) p21 
(dIf [] (wantT g21) p22 (dLook (nat_lit 4) [] [] (lkMove g3) p22 k316d11) k316d11)))))) (kCond g34 kSkip (kExit (nat_lit 2)))) (kSeq (kBlock (nat_lit 3) (kDraw 
(dLook (nat_lit 0) [] [] (lkMove g0) p37 
(dLook (nat_lit 1) [] [] (lkMove g9) p38 
(dLook (nat_lit 2) [] [] (lkMove g0) p39 
(dLook (nat_lit 3) [] [] (lkMove g9) p40 
(dLook (nat_lit 4) [] [] (lkBin .sub g40 q10) p41 
(dLook (nat_lit 5) [] [] (lkMove g0) p42 
(dLook (nat_lit 6) [] [] (lkMove g9) p43 
(dLook (nat_lit 7) [] [] (lkBin .sub g43 q10) p44 
(dLook (nat_lit 8) [] [] (lkIxSl (nat_lit 2) g42 g44) p45 
(dLook (nat_lit 9) [] [] (lkLoadN (nat_lit 2) g45) p46 
(dLook (nat_lit 10) [] [] (lkMove g0) p47 
(dLook (nat_lit 11) [] [] (lkMove g9) p48 
(dLook (nat_lit 12) [] [] (lkIxSl (nat_lit 2) g47 g48) p49 
(dLook (nat_lit 13) [] [] (lkLoadN (nat_lit 2) g49) p50 
(dLook (nat_lit 14) [] [] (lkIxSl (nat_lit 2) g37 g38) p51 
(dTurn (nat_lit 15) [] [] true (xTurn (tnStore (nat_lit 2) g51 g46)) noDst 
(dLook (nat_lit 16) [] [(nat_lit 15)] (lkIxSl (nat_lit 2) g39 g41) p52 
(dTurn (nat_lit 17) [] [(nat_lit 15)] true (xTurn (tnStore (nat_lit 2) g52 g50)) noDst (dEnd [(nat_lit 37), (nat_lit 38), (nat_lit 39), (nat_lit 40), (nat_lit 41), (nat_lit 42), (nat_lit 43), (nat_lit 44), (nat_lit 45), (nat_lit 46), (nat_lit 47), (nat_lit 48), (nat_lit 49), (nat_lit 50), (nat_lit 51), (nat_lit 52)]))))))))))))))))))))) (oSet (xMove g9) p35 
(oSet (xLook (lkBin .sub g35 q10)) p36 
(oSet (xMove g36) p9 
oEnd))))))))) (oSet (xMove g8) p15 
(oSet (xLook (lkBin .add g15 q10)) p16 
(oSet (xMove g16) p8 
oEnd))))))))⟩
def q558 : OpdF := kC (.int .u32 (.ofNat (nat_lit 125613361)))
def q559 : OpdF := kC (.int .u64 (.ofNat (nat_lit 27)))
noncomputable def k331 : KFun := ⟨[rTmp (nat_lit 2) g2], (kSeq (oSet (xMove q6) p2 
oEnd) (kSeq (kSeq (oSet (xMove g0) p3 
(oSet (xLook (lkEq false .int g3 q450)) p4 
oEnd)) (kCond g4 (kSeq (oSet (xMove q244) p2 
oEnd) kRet) kSkip)) (kSeq (oSet (xMove g0) p5 
(oSet (xMove g0) p6 
(oSet (xLook (lkUn .neg g6)) p7 
(oSet (xLook (lkBin .and g5 g7)) p8 
(oSet (xLook (lkBin .mul g8 q558)) p9 
(oSet (xLook (lkBin .shr g9 q559)) p10 
(oSet (xBad "indexAddr") p11 
(oSet (xLook (lkLoad1 g11)) p12 
(oSet (xLook (lkIntTo .i64 g12)) p13 
(oSet (xMove g13) p2 
oEnd)))))))))) kRet)))⟩
def q560 : OpdF := kC (.int .u64 (.ofNat (nat_lit 285870213051353865)))
def q561 : OpdF := kC (.int .u64 (.ofNat (nat_lit 58)))
noncomputable def k332 : KFun := ⟨[rTmp (nat_lit 2) g2], (kSeq (oSet (xMove q6) p2 
oEnd) (kSeq (kSeq (oSet (xMove g0) p3 
(oSet (xLook (lkEq false .int g3 q438)) p4 
oEnd)) (kCond g4 (kSeq (oSet (xMove q62) p2 
oEnd) kRet) kSkip)) (kSeq (oSet (xMove g0) p5 
(oSet (xMove g0) p6 
(oSet (xLook (lkUn .neg g6)) p7 
(oSet (xLook (lkBin .and g5 g7)) p8 
(oSet (xLook (lkBin .mul g8 q560)) p9 
(oSet (xLook (lkBin .shr g9 q561)) p10 
(oSet (xBad "indexAddr") p11 
(oSet (xLook (lkLoad1 g11)) p12 
(oSet (xLook (lkIntTo .i64 g12)) p13 
(oSet (xMove g13) p2 
oEnd)))))))))) kRet)))⟩
noncomputable def k353 : KFun := ⟨[rTmp (nat_lit 6) g6], (kSeq (oSet (xMove q6) p6 
oEnd) (kSeq (oSet (xMove g0) p7 
(oSet (xMove g0) p8 
(oSet (xNil g8) p9 
(oSet (xLook (lkFieldAddr (nat_lit 1) g9)) p10 
(oSet (xLook (lkLoad1 g10)) p11 
(oSet (xMove g11) p12 
(oSetIf (wantF g12) (xMove g1) p13 
(oSetIf (wantF g12) (xLook (lkBin .lss g13 q10)) p14 
(oSet (xLook (lkPick g12 q2 g14)) p15 
(oSet (xMove g15) p16 
(oSetIf (wantF g16) (xMove g1) p17 
(oSetIf (wantF g16) (xMove g2) p18 
(oSetIf (wantF g16) (xLook (lkBin .gtr g17 g18)) p19 
(oSet (xLook (lkPick g16 q2 g19)) p20 
(oSet (xNil g7) p21 
(oSet (xLook (lkFieldAddr (nat_lit 1) g21)) p22 
(oDo (xTurn (tnStore (nat_lit 1) g22 g20)) 
oEnd))))))))))))))))) (kSeq (oSet (xMove g0) p23 
(oSet (xNil g23) p24 
(oSet (xLook (lkFieldAddr (nat_lit 0) g24)) p25 
(oSet (xLook (lkLoad1 g25)) p26 
(oSet (xMove g1) p27 
(oSet (xCall q44 [g26, g27]) p28 
oEnd)))))) (kSeq (oSet (xMove g1) p29 
(oSet (xMove g29) p6 
oEnd)) kRet))))⟩
noncomputable def k354 : KFun := ⟨[], (kSeq (oSet (xMove g0) p10 
(oSet (xMove g0) p11 
(oSet (xNil g11) p12 
(oSet (xLook (lkFieldAddr (nat_lit 1) g12)) p13 
(oSet (xLook (lkLoad1 g13)) p14 
(oSet (xMove g14) p15 
(oSetIf (wantF g15) (xMove g1) p16 
(oSetIf (wantF g15) (xNil g16) p17 
(oSetIf (wantF g15) (xLook (lkLoad1 g17)) p18 
(oSetIf (wantF g15) (xMove g2) p19 
(oSetIf (wantF g15) (xLook (lkBin .lss g18 g19)) p20 
(oSet (xLook (lkPick g15 q2 g20)) p21 
(oSet (xMove g21) p22 
(oSetIf (wantF g22) (xMove g1) p23 
(oSetIf (wantF g22) (xNil g23) p24 
(oSetIf (wantF g22) (xLook (lkLoad1 g24)) p25 
(oSetIf (wantF g22) (xMove g3) p26 
(oSetIf (wantF g22) (xLook (lkBin .gtr g25 g26)) p27 
(oSet (xLook (lkPick g22 q2 g27)) p28 
(oSet (xNil g10) p29 
(oSet (xLook (lkFieldAddr (nat_lit 1) g29)) p30 
(oDo (xTurn (tnStore (nat_lit 1) g30 g28)) 
oEnd)))))))))))))))))))))) (kSeq (kDraw 
(dLook (nat_lit 0) [] [] (lkMove g0) p31 
(dTurn (nat_lit 1) [] [] false (xNil g31) p32 
(dLook (nat_lit 2) [] [] (lkFieldAddr (nat_lit 0) g32) p33 
(dLook (nat_lit 3) [] [] (lkLoad1 g33) p34 
(dLook (nat_lit 4) [] [] (lkMove g1) p35 
(dTurn (nat_lit 5) [] [] false (xNil g35) p36 
(dLook (nat_lit 6) [] [] (lkLoad1 g36) p37 
(dLook (nat_lit 7) [] [] (lkMove g4) p38 
(dLook (nat_lit 8) [] [] (lkBin .add g37 g38) p39 
(dLook (nat_lit 9) [] [] (lkMax g39 [q6]) p40 
(dTurn (nat_lit 10) [] [] true (xCall q44 [g34, g40]) p41 (dEnd [(nat_lit 31), (nat_lit 32), (nat_lit 33), (nat_lit 34), (nat_lit 35), (nat_lit 36), (nat_lit 37), (nat_lit 38), (nat_lit 39), (nat_lit 40), (nat_lit 41)]))))))))))))) (oSet (xMove g1) p42 
(oSet (xNil g42) p43 
(oDo (xTurn (tnStore (nat_lit 1) g43 q6)) 
oEnd)))))⟩
noncomputable def k355 : KFun := ⟨[], (kSeq (oSet (xMove g0) p6 
(oSet (xMove g0) p7 
(oSet (xNil g7) p8 
(oSet (xLook (lkFieldAddr (nat_lit 1) g8)) p9 
(oSet (xLook (lkLoad1 g9)) p10 
(oSet (xMove g10) p11 
(oSetIf (wantF g11) (xMove g1) p12 
(oSetIf (wantF g11) (xNil g12) p13 
(oSetIf (wantF g11) (xLook (lkLoad1 g13)) p14 
(oSetIf (wantF g11) (xLook (lkLen .str g14)) p15 
(oSetIf (wantF g11) (xMove g2) p16 
(oSetIf (wantF g11) (xLook (lkBin .gtr g15 g16)) p17 
(oSet (xLook (lkPick g11 q2 g17)) p18 
(oSet (xNil g6) p19 
(oSet (xLook (lkFieldAddr (nat_lit 1) g19)) p20 
(oDo (xTurn (tnStore (nat_lit 1) g20 g18)) 
oEnd)))))))))))))))) (kSeq (kDraw 
(dLook (nat_lit 0) [] [] (lkMove g0) p21 
(dTurn (nat_lit 1) [] [] false (xNil g21) p22 
(dLook (nat_lit 2) [] [] (lkFieldAddr (nat_lit 0) g22) p23 
(dLook (nat_lit 3) [] [] (lkLoad1 g23) p24 
(dLook (nat_lit 4) [] [] (lkMove g1) p25 
(dTurn (nat_lit 5) [] [] false (xNil g25) p26 
(dLook (nat_lit 6) [] [] (lkLoad1 g26) p27 
(dTurn (nat_lit 7) [] [] true (xCall q77 [g24, g27]) p28 (dEnd [(nat_lit 21), (nat_lit 22), (nat_lit 23), (nat_lit 24), (nat_lit 25), (nat_lit 26), (nat_lit 27), (nat_lit 28)])))))))))) (oSet (xMove g1) p29 
(oSet (xNil g29) p30 
(oDo (xTurn (tnStore (nat_lit 1) g30 q25)) 
oEnd)))))⟩
noncomputable def k356 : KFun := ⟨[rTmp (nat_lit 6) g6], (kSeq (oSet (xMove q6) p6 
oEnd) (kSeq (oSet (xMove g0) p9 
(oSet (xNil g9) p10 
(oSet (xLook (lkFieldAddr (nat_lit 0) g10)) p11 
(oSet (xLook (lkLoad1 g11)) p12 
(oSet (xCall q264 [g12]) p13 
(oSet (xMove g13) p7 
oEnd)))))) (kSeq (kSeq (oSet (xMove g0) p14 
(oSet (xCall q73 [g14]) p15 
(oSet (xLook (lkField1 (nat_lit 0) g15)) p16 
(oSet (xLook (lkEq true .int g16 q6)) p17 
oEnd)))) (kCond g17 (kSeq (oSet (xMove q6) p6 
oEnd) kRet) kSkip)) (kSeq (oSet (xMove g0) p18 
(oSet (xNil g18) p19 
(oSet (xLook (lkFieldAddr (nat_lit 0) g19)) p20 
(oSet (xLook (lkLoad1 g20)) p21 
(oSet (xMove g2) p22 
(oSet (xCall q57 [g21, g22]) p23 
(oSet (xMove g23) p8 
oEnd))))))) (kSeq (kSeq (oSet (xMove g8) p24 
(oSet (xLook (lkEq false .int g24 q6)) p25 
(oSet (xMove g25) p26 
(oSetIf (wantT g26) (xMove g0) p27 
(oSetIf (wantT g26) (xCall q73 [g27]) p28 
(oSetIf (wantT g26) (xLook (lkField1 (nat_lit 0) g28)) p29 
(oSetIf (wantT g26) (xLook (lkEq false .int g29 q6)) p30 
(oSet (xLook (lkPick g26 g30 q0)) p31 
oEnd)))))))) (kCond g31 (oSet (xMove g0) p32 
(oSet (xMove g7) p33 
(oSet (xLook (lkBuild q32 [((nat_lit 0), (nat_lit 1), q81), ((nat_lit 1), (nat_lit 1), g33)])) p34 
(oSet (xNil g32) p35 
(oSet (xLook (lkFieldAddr (nat_lit 1) g35)) p36 
(oDo (xTurn (tnStore (nat_lit 2) g36 g34)) 
oEnd)))))) kSkip)) (kSeq (oSet (xMove g8) p37 
(oSet (xMove g37) p6 
oEnd)) kRet))))))⟩
noncomputable def k357 : KFun := ⟨[], (kSeq (oSet (xMove g0) p10 
(oSet (xCall q73 [g10]) p11 
(oSet (xLook (lkField1 (nat_lit 0) g11)) p12 
(oSet (xLook (lkEq false .int g12 q6)) p13 
oEnd)))) (kCond g13 (oSet (xMove g1) p14 
(oSet (xMove g0) p15 
(oSet (xNil g15) p16 
(oSet (xLook (lkFieldAddr (nat_lit 0) g16)) p17 
(oSet (xLook (lkLoad1 g17)) p18 
(oSet (xMove g2) p19 
(oSet (xMove g4) p20 
(oSet (xLook (lkBin .add g19 g20)) p21 
(oSet (xMove g3) p22 
(oSet (xMove g4) p23 
(oSet (xLook (lkBin .add g22 g23)) p24 
(oSet (xCall q55 [g18, g21, g24]) p25 
(oSet (xMove g4) p26 
(oSet (xLook (lkBin .sub g25 g26)) p27 
(oSet (xNil g14) p28 
(oDo (xTurn (tnStore (nat_lit 1) g28 g27)) 
oEnd)))))))))))))))) kSkip))⟩
noncomputable def k358 : KFun := ⟨[], (kSeq (oSet (xMove g0) p6 
(oSet (xCall q73 [g6]) p7 
(oSet (xLook (lkField1 (nat_lit 0) g7)) p8 
(oSet (xLook (lkEq false .int g8 q6)) p9 
oEnd)))) (kCond g9 (oSet (xMove g1) p10 
(oSet (xMove g0) p11 
(oSet (xNil g11) p12 
(oSet (xLook (lkFieldAddr (nat_lit 0) g12)) p13 
(oSet (xLook (lkLoad1 g13)) p14 
(oSet (xMove g2) p15 
(oSet (xCall q59 [g14, g15]) p16 
(oSet (xNil g10) p17 
(oDo (xTurn (tnStore (nat_lit 1) g17 g16)) 
oEnd))))))))) kSkip))⟩
noncomputable def tab : Tr KFun := (.node none (.node none (.node none (.node (some k7) (.node (some k15) (.node (some k31) (.node (some k63) .nil .nil) (.node (some k95) (.node none (.node (some k287) .nil .nil) .nil) (.node (some k223) .nil .nil))) (.node (some k47) (.node none (.node none (.node (some k271) .nil .nil) .nil) .nil) (.node (some k111) .nil .nil))) (.node (some k23) (.node (some k39) (.node none (.node (some k135) (.node (some k263) .nil .nil) .nil) .nil) (.node (some k103) (.node (some k167) .nil .nil) (.node (some k231) .nil .nil))) (.node (some k55) (.node (some k87) (.node (some k151) .nil .nil) .nil) (.node (some k119) (.node none (.node (some k311) .nil .nil) .nil) .nil)))) (.node (some k11) (.node (some k19) (.node (some k35) (.node (some k67) (.node (some k131) .nil .nil) .nil) (.node (some k99) (.node none (.node (some k291) .nil .nil) .nil) (.node none (.node (some k355) .nil .nil) .nil))) (.node (some k51) (.node none (.node (some k147) .nil .nil) .nil) (.node (some k115) (.node (some k179) .nil .nil) .nil))) (.node (some k27) (.node (some k43) (.node (some k75) .nil (.node none (.node (some k331) .nil .nil) .nil)) .nil) (.node (some k59) (.node none (.node (some k155) .nil .nil) (.node (some k219) .nil .nil)) (.node none (.node (some k187) .nil .nil) (.node (some k251) .nil .nil)))))) (.node (some k5) (.node none (.node (some k17) (.node (some k33) (.node (some k65) .nil .nil) (.node none .nil (.node (some k225) (.node (some k353) .nil .nil) .nil))) (.node (some k49) (.node none (.node (some k145) .nil .nil) .nil) (.node none (.node (some k177) .nil .nil) (.node (some k241) .nil .nil)))) (.node (some k25) (.node none (.node none .nil (.node (some k201) .nil .nil)) .nil) (.node none (.node (some k89) .nil .nil) .nil))) (.node (some k13) (.node (some k21) (.node (some k37) (.node (some k69) .nil .nil) (.node (some k101) (.node none (.node (some k293) .nil .nil) .nil) (.node none (.node (some k357) .nil .nil) .nil))) (.node (some k53) (.node none (.node (some k149) .nil .nil) .nil) (.node none (.node none (.node (some k309) .nil .nil) .nil) .nil))) (.node (some k29) (.node (some k45) (.node none (.node (some k141) .nil .nil) (.node (some k205) .nil .nil)) (.node none (.node none (.node (some k301) .nil .nil) .nil) .nil)) (.node (some k61) (.node (some k93) (.node none (.node (some k285) .nil .nil) .nil) (.node (some k221) .nil .nil)) (.node none (.node (some k189) .nil .nil) .nil)))))) (.node none (.node (some k4) (.node (some k8) (.node (some k16) (.node (some k32) (.node (some k64) .nil (.node (some k192) .nil .nil)) (.node none (.node none (.node (some k288) .nil .nil) .nil) (.node (some k224) .nil .nil))) (.node (some k48) .nil (.node (some k112) .nil .nil))) (.node (some k24) (.node (some k40) (.node none (.node none (.node (some k264) .nil .nil) .nil) .nil) .nil) (.node (some k56) (.node (some k88) .nil .nil) (.node none (.node (some k184) (.node (some k312) .nil .nil) .nil) (.node (some k248) .nil .nil))))) (.node (some k12) (.node none (.node (some k36) (.node (some k68) (.node (some k132) .nil .nil) (.node (some k196) .nil .nil)) (.node (some k100) .nil (.node (some k228) (.node (some k356) .nil .nil) .nil))) (.node (some k52) (.node none (.node (some k148) .nil .nil) (.node (some k212) .nil .nil)) (.node none (.node (some k180) .nil .nil) .nil))) (.node (some k28) (.node (some k44) (.node none .nil (.node (some k204) (.node (some k332) .nil .nil) .nil)) (.node none (.node none (.node (some k300) .nil .nil) .nil) .nil)) (.node (some k60) (.node none (.node (some k156) .nil .nil) (.node (some k220) .nil .nil)) (.node none (.node (some k188) (.node (some k316) .nil .nil) .nil) .nil))))) (.node (some k6) (.node (some k10) (.node (some k18) (.node (some k34) (.node (some k66) (.node (some k130) .nil .nil) .nil) (.node (some k98) .nil (.node (some k226) (.node (some k354) .nil .nil) .nil))) (.node (some k50) (.node none (.node (some k146) (.node (some k274) .nil .nil) .nil) .nil) (.node none (.node (some k178) .nil .nil) .nil))) (.node (some k26) (.node (some k42) (.node (some k74) (.node none (.node (some k266) .nil .nil) .nil) (.node (some k202) .nil .nil)) (.node (some k106) .nil .nil)) (.node (some k58) (.node none (.node (some k154) .nil .nil) (.node (some k218) .nil .nil)) (.node none (.node (some k186) .nil .nil) .nil)))) (.node (some k14) (.node (some k22) (.node (some k38) .nil (.node (some k102) .nil (.node none (.node (some k358) .nil .nil) .nil))) (.node (some k54) (.node (some k86) (.node (some k150) .nil .nil) .nil) (.node none (.node none (.node (some k310) .nil .nil) .nil) (.node (some k246) .nil .nil)))) (.node (some k30) (.node (some k46) (.node none (.node none (.node (some k270) .nil .nil) .nil) (.node (some k206) .nil .nil)) (.node (some k110) (.node none (.node (some k302) .nil .nil) .nil) .nil)) (.node (some k62) (.node (some k94) (.node none (.node (some k286) .nil .nil) .nil) (.node (some k222) .nil .nil)) (.node (some k126) (.node (some k190) .nil .nil) .nil)))))))
end Go.Proofs.YtfmlefelbijogaaGreatDoor.Eng
