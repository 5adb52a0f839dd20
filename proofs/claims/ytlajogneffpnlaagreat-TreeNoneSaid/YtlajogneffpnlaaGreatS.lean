/-
  The functions that the law reaches, as the abstract machine runs them, printed by program. No condition.
-/
import Derived.Test.YtlajogneffpnlaaGreatS0
namespace Go.Proofs.YtlajogneffpnlaaGreat.Eng
open Go Go.Eng
set_option linter.unusedVariables false
set_option maxRecDepth 100000

def q317 : OpdF := kC (.int .i64 (.ofNat (nat_lit 12)))
def q318 : OpdF := kC (.func (.func (nat_lit 294)) ⟨[]⟩ ⟨[]⟩)
def q319 : OpdF := kC (.func (.func (nat_lit 295)) ⟨[]⟩ ⟨[]⟩)
def q320 : OpdF := kC (.func (.func (nat_lit 296)) ⟨[]⟩ ⟨[]⟩)
def q321 : OpdF := kC (.func (.func (nat_lit 297)) ⟨[]⟩ ⟨[]⟩)
def q322 : OpdF := kC (.func (.func (nat_lit 298)) ⟨[]⟩ ⟨[]⟩)
def q323 : OpdF := kC (.func (.func (nat_lit 299)) ⟨[]⟩ ⟨[]⟩)
noncomputable def k274d0 : KD := 
(dLook (nat_lit 16) [] [(nat_lit 13)] (lkPick g83 g96 q0) p97 (dEnd [(nat_lit 81), (nat_lit 82), (nat_lit 83), (nat_lit 84), (nat_lit 85), (nat_lit 86), (nat_lit 87), (nat_lit 88), (nat_lit 89), (nat_lit 90), (nat_lit 91), (nat_lit 92), (nat_lit 93), (nat_lit 94), (nat_lit 95), (nat_lit 96), (nat_lit 97)]))
noncomputable def k274d1 : KD := 
(dIf [(nat_lit 13)] (wantT g83) p96 (dLook (nat_lit 15) [] [(nat_lit 13)] (lkUn .not g95) p96 k274d0) k274d0)
noncomputable def k274d2 : KD := 
(dIf [(nat_lit 13)] (wantT g83) p95 (dLook (nat_lit 14) [] [(nat_lit 13)] (lkBin .lss g94 q16) p95 k274d1) k274d1)
noncomputable def k274d3 : KD := 
(dIf [] (wantT g83) p94 (dTurn (nat_lit 13) [] [] true (xCall g84 [g89, g93]) p94 k274d2) k274d2)
noncomputable def k274d4 : KD := 
(dIf [] (wantT g83) p93 (dLook (nat_lit 12) [] [] (lkLoadN (nat_lit 2) g92) p93 k274d3) k274d3)
noncomputable def k274d5 : KD := 
(dIf [] (wantT g83) p92 (dLook (nat_lit 11) [] [] (lkIxSl (nat_lit 2) g90 g91) p92 k274d4) k274d4)
noncomputable def k274d6 : KD := 
(dIf [] (wantT g83) p91 (dLook (nat_lit 10) [] [] (lkMove g13) p91 k274d5) k274d5)
noncomputable def k274d7 : KD := 
(dIf [] (wantT g83) p90 (dLook (nat_lit 9) [] [] (lkMove g0) p90 k274d6) k274d6)
noncomputable def k274d8 : KD := 
(dIf [] (wantT g83) p89 (dLook (nat_lit 8) [] [] (lkLoadN (nat_lit 2) g88) p89 k274d7) k274d7)
noncomputable def k274d9 : KD := 
(dIf [] (wantT g83) p88 (dLook (nat_lit 7) [] [] (lkIxSl (nat_lit 2) g85 g87) p88 k274d8) k274d8)
noncomputable def k274d10 : KD := 
(dIf [] (wantT g83) p87 (dLook (nat_lit 6) [] [] (lkBin .sub g86 q11) p87 k274d9) k274d9)
noncomputable def k274d11 : KD := 
(dIf [] (wantT g83) p86 (dLook (nat_lit 5) [] [] (lkMove g1) p86 k274d10) k274d10)
noncomputable def k274d12 : KD := 
(dIf [] (wantT g83) p85 (dLook (nat_lit 4) [] [] (lkMove g0) p85 k274d11) k274d11)
def q324 : OpdF := kC (.func (.func (nat_lit 300)) ⟨[]⟩ ⟨[]⟩)
def q325 : OpdF := kC (.func (.func (nat_lit 301)) ⟨[]⟩ ⟨[]⟩)
noncomputable def k274 : KFun := ⟨[], (kSeq (oSet (xMove q2) p10 
oEnd) (kSeq (oSet (xMove q2) p11 
oEnd) (kBlock (nat_lit 0) (kLoop (kBlock (nat_lit 1) (kSeq (oSet (xMove g2) p21 
(oSet (xMove g1) p22 
(oSet (xLook (lkBin .sub g21 g22)) p23 
(oSet (xMove g23) p12 
oEnd)))) (kSeq (kSeq (oSet (xMove g12) p24 
(oSet (xLook (lkBin .leq g24 q317)) p25 
oEnd)) (kCond g25 (kSeq (oSet (xMove g0) p26 
(oSet (xMove g1) p27 
(oSet (xMove g2) p28 
(oSet (xMove g4) p29 
(oSet (xCall q318 [g26, g27, g28, g29]) p30 
oEnd))))) kRet) kSkip)) (kSeq (kSeq (oSet (xMove g3) p31 
(oSet (xLook (lkEq false .int g31 q16)) p32 
oEnd)) (kCond g32 (kSeq (oSet (xMove g0) p33 
(oSet (xMove g1) p34 
(oSet (xMove g2) p35 
(oSet (xMove g4) p36 
(oSet (xCall q319 [g33, g34, g35, g36]) p37 
oEnd))))) kRet) kSkip)) (kSeq (kSeq (oSet (xMove g10) p38 
(oSet (xLook (lkUn .not g38)) p39 
oEnd)) (kCond g39 (kSeq (oSet (xMove g0) p40 
(oSet (xMove g1) p41 
(oSet (xMove g2) p42 
(oSet (xMove g4) p43 
(oSet (xCall q320 [g40, g41, g42, g43]) p44 
oEnd))))) (oSet (xMove g3) p45 
(oSet (xLook (lkBin .sub g45 q11)) p46 
(oSet (xMove g46) p3 
oEnd)))) kSkip)) (kSeq (oSet (xMove g0) p48 
(oSet (xMove g1) p49 
(oSet (xMove g2) p50 
(oSet (xMove g4) p51 
(oSet (xCall q321 [g48, g49, g50, g51]) p52 
(oSet (xMove g52) p47 
(oSet (xLook (lkExtract (nat_lit 0) g47)) p53 
(oSet (xLook (lkExtract (nat_lit 1) g47)) p54 
(oSet (xMove g53) p13 
(oSet (xMove g54) p14 
oEnd)))))))))) (kSeq (kSeq (oSet (xMove g14) p55 
(oSet (xLook (lkEq false .int g55 q32)) p56 
oEnd)) (kCond g56 (kSeq (oSet (xMove g0) p57 
(oSet (xMove g1) p58 
(oSet (xMove g2) p59 
(oSet (xMove g4) p60 
(oSet (xCall q322 [g57, g58, g59, g60]) p61 
oEnd))))) (kSeq (oSet (xMove g2) p62 
(oSet (xLook (lkBin .sub g62 q11)) p63 
(oSet (xMove g13) p64 
(oSet (xMove g1) p65 
(oSet (xLook (lkBin .sub g64 g65)) p66 
(oSet (xLook (lkBin .sub g63 g66)) p67 
(oSet (xMove g67) p13 
oEnd))))))) (oSet (xMove q11) p14 
oEnd))) kSkip)) (kSeq (kSeq (oSet (xMove g10) p68 
(oSet (xMove g68) p69 
(oSetIf (wantT g69) (xMove g11) p70 
(oSet (xLook (lkPick g69 g70 q0)) p71 
(oSet (xMove g71) p72 
(oSetIf (wantT g72) (xMove g14) p73 
(oSetIf (wantT g72) (xLook (lkEq false .int g73 q11)) p74 
(oSet (xLook (lkPick g72 g74 q0)) p75 
oEnd)))))))) (kCond g75 (kSeq (oSet (xMove g0) p76 
(oSet (xMove g1) p77 
(oSet (xMove g2) p78 
(oSet (xMove g4) p79 
(oSet (xCall q323 [g76, g77, g78, g79]) p80 
oEnd))))) (kCond g80 kRet kSkip)) kSkip)) (kSeq (kSeq (kDraw 
(dLook (nat_lit 0) [] [] (lkMove g1) p81 
(dLook (nat_lit 1) [] [] (lkBin .gtr g81 q16) p82 
(dLook (nat_lit 2) [] [] (lkMove g82) p83 
(dIf [] (wantT g83) p84 (dLook (nat_lit 3) [] [] (lkMove g4) p84 k274d12) k274d12))))) (kCond g97 (kSeq (oSet (xMove g0) p98 
(oSet (xMove g1) p99 
(oSet (xMove g2) p100 
(oSet (xMove g13) p101 
(oSet (xMove g4) p102 
(oSet (xCall q324 [g98, g99, g100, g101, g102]) p103 
(oSet (xMove g103) p15 
oEnd))))))) (kSeq (oSet (xMove g15) p104 
(oSet (xMove g104) p1 
oEnd)) (kExit (nat_lit 1)))) kSkip)) (kSeq (oSet (xMove g0) p106 
(oSet (xMove g1) p107 
(oSet (xMove g2) p108 
(oSet (xMove g13) p109 
(oSet (xMove g4) p110 
(oSet (xCall q325 [g106, g107, g108, g109, g110]) p111 
(oSet (xMove g111) p105 
(oSet (xLook (lkExtract (nat_lit 0) g105)) p112 
(oSet (xLook (lkExtract (nat_lit 1) g105)) p113 
(oSet (xMove g112) p16 
(oSet (xMove g113) p17 
oEnd))))))))))) (kSeq (oSet (xMove g17) p114 
(oSet (xMove g114) p11 
oEnd)) (kSeq (oSet (xMove g16) p115 
(oSet (xMove g1) p116 
(oSet (xLook (lkBin .sub g115 g116)) p117 
(oSet (xMove g2) p118 
(oSet (xMove g16) p119 
(oSet (xLook (lkBin .sub g118 g119)) p120 
(oSet (xMove g117) p18 
(oSet (xMove g120) p19 
oEnd)))))))) (kSeq (oSet (xMove g12) p121 
(oSet (xLook (lkBin .quo g121 q20)) p122 
(oSet (xMove g122) p20 
oEnd))) (kSeq (oSet (xMove g18) p123 
(oSet (xMove g19) p124 
(oSet (xLook (lkBin .lss g123 g124)) p125 
oEnd))) (kCond g125 (kSeq (oSet (xMove g18) p126 
(oSet (xMove g20) p127 
(oSet (xLook (lkBin .geq g126 g127)) p128 
(oSet (xMove g128) p10 
oEnd)))) (kSeq (oSet (xMove g0) p129 
(oSet (xMove g1) p130 
(oSet (xMove g16) p131 
(oSet (xMove g3) p132 
(oSet (xMove g4) p133 
(oSet (xCall q290 [g129, g130, g131, g132, g133]) p134 
oEnd)))))) (oSet (xMove g16) p135 
(oSet (xLook (lkBin .add g135 q11)) p136 
(oSet (xMove g136) p1 
oEnd))))) (kSeq (oSet (xMove g19) p137 
(oSet (xMove g20) p138 
(oSet (xLook (lkBin .geq g137 g138)) p139 
(oSet (xMove g139) p10 
oEnd)))) (kSeq (oSet (xMove g0) p140 
(oSet (xMove g16) p141 
(oSet (xLook (lkBin .add g141 q11)) p142 
(oSet (xMove g2) p143 
(oSet (xMove g3) p144 
(oSet (xMove g4) p145 
(oSet (xCall q290 [g140, g142, g143, g144, g145]) p146 
oEnd))))))) (oSet (xMove g16) p147 
(oSet (xMove g147) p2 
oEnd)))))))))))))))))))))))⟩
def q326 : OpdF := kC (.func (.func (nat_lit 302)) ⟨[]⟩ ⟨[]⟩)
noncomputable def k275 : KFun := ⟨[rTmp (nat_lit 4) g4], (kSeq (oSet (xMove q16) p4 
oEnd) (kSeq (oSet (xMove g0) p7 
(oSet (xCall q326 [g7]) p8 
(oSet (xMove g8) p5 
oEnd))) (kSeq (oSet (xMove g1) p9 
(oSet (xCall q326 [g9]) p10 
(oSet (xMove g10) p6 
oEnd))) (kSeq (kSeq (oSet (xMove g5) p11 
oEnd) (kCond g11 (kSeq (kSeq (oSet (xMove g6) p12 
oEnd) (kCond g12 (kSeq (oSet (xMove q16) p4 
oEnd) kRet) kSkip)) (kSeq (oSet (xMove q78) p4 
oEnd) kRet)) kSkip)) (kSeq (kSeq (oSet (xMove g6) p13 
oEnd) (kCond g13 (kSeq (oSet (xMove q11) p4 
oEnd) kRet) kSkip)) (kSeq (kSeq (oSet (xMove g0) p14 
(oSet (xMove g1) p15 
(oSet (xLook (lkBin .lss g14 g15)) p16 
oEnd))) (kCond g16 (kSeq (oSet (xMove q78) p4 
oEnd) kRet) kSkip)) (kSeq (kSeq (oSet (xMove g0) p17 
(oSet (xMove g1) p18 
(oSet (xLook (lkBin .gtr g17 g18)) p19 
oEnd))) (kCond g19 (kSeq (oSet (xMove q11) p4 
oEnd) kRet) kSkip)) (kSeq (oSet (xMove q16) p4 
oEnd) kRet))))))))⟩
noncomputable def k276 : KFun := ⟨[rTmp (nat_lit 6) g6, rTmp (nat_lit 7) g7], (kSeq (oSet (xMove q16) p6 
(oSet (xMove q0) p7 
oEnd)) (kSeq (oSet (xMove g0) p12 
(oSet (xLook (lkLen .sl g12)) p13 
(oSet (xMove g13) p8 
oEnd))) (kSeq (oSet (xMove g8) p14 
(oSet (xMove q16) p9 
(oSet (xMove g14) p10 
oEnd))) (kSeq (kBlock (nat_lit 0) (kLoop (kSeq (kSeq (oSet (xMove g9) p15 
(oSet (xMove g10) p16 
(oSet (xLook (lkBin .lss g15 g16)) p17 
oEnd))) (kCond g17 kSkip (kExit (nat_lit 0)))) (kBlock (nat_lit 1) (kSeq (oSet (xMove g9) p18 
(oSet (xMove g10) p19 
(oSet (xLook (lkBin .add g18 g19)) p20 
(oSet (xLook (lkIntTo .u64 g20)) p21 
(oSet (xLook (lkBin .shr g21 q308)) p22 
(oSet (xLook (lkIntTo .i64 g22)) p23 
(oSet (xMove g23) p11 
oEnd))))))) (kSeq (oSet (xMove g2) p24 
(oSet (xMove g0) p25 
(oSet (xMove g11) p26 
(oSet (xLook (lkIxSl (nat_lit 2) g25 g26)) p27 
(oSet (xLook (lkLoadN (nat_lit 2) g27)) p28 
(oSet (xMove g1) p29 
(oSet (xCall g24 [g28, g29]) p30 
(oSet (xLook (lkBin .lss g30 q16)) p31 
oEnd)))))))) (kCond g31 (oSet (xMove g11) p32 
(oSet (xLook (lkBin .add g32 q11)) p33 
(oSet (xMove g33) p9 
oEnd))) (oSet (xMove g11) p34 
(oSet (xMove g34) p10 
oEnd))))))))) (kSeq (oSet (xMove g9) p35 
(oSet (xMove g9) p36 
(oSet (xMove g8) p37 
(oSet (xLook (lkBin .lss g36 g37)) p38 
(oSet (xMove g38) p39 
(oSetIf (wantT g39) (xMove g2) p40 
(oSetIf (wantT g39) (xMove g0) p41 
(oSetIf (wantT g39) (xMove g9) p42 
(oSetIf (wantT g39) (xLook (lkIxSl (nat_lit 2) g41 g42)) p43 
(oSetIf (wantT g39) (xLook (lkLoadN (nat_lit 2) g43)) p44 
(oSetIf (wantT g39) (xMove g1) p45 
(oSetIf (wantT g39) (xCall g40 [g44, g45]) p46 
(oSetIf (wantT g39) (xLook (lkEq false .int g46 q16)) p47 
(oSet (xLook (lkPick g39 g47 q0)) p48 
(oSet (xMove g35) p6 
(oSet (xMove g48) p7 
oEnd)))))))))))))))) kRet)))))⟩
noncomputable def k277 : KFun := ⟨[rTmp (nat_lit 4) g4], (kSeq (oSet (xTurn (tnBox g0)) p2 
(oSet (xMove q16) p4 
oEnd)) (kSeq (kSeq (oSet (xLook (lkLoadN (nat_lit 2) g2)) p5 
(oSet (xCall q175 [g5]) p6 
(oSet (xMove g1) p7 
(oSet (xLook (lkBin .leq g6 g7)) p8 
oEnd)))) (kCond g8 (kSeq (oSet (xMove q78) p4 
oEnd) kRet) kSkip)) (kSeq (oSet (xMove q11) p4 
oEnd) kRet)))⟩
noncomputable def k278 : KFun := ⟨[rTmp (nat_lit 2) g2], (kSeq (oSet (xMove q0) p2 
oEnd) (kSeq (oSet (xMove g0) p3 
(oSet (xLook (lkBin .geq g3 q16)) p4 
(oSet (xMove g4) p5 
(oSetIf (wantT g5) (xMove g0) p6 
(oSetIf (wantT g5) (xLook (lkBin .leq g6 q190)) p7 
(oSet (xLook (lkPick g5 g7 q0)) p8 
(oSet (xMove g8) p2 
oEnd))))))) kRet))⟩
def q327 : OpdF := kC (.int .u8 (.ofNat (nat_lit 64)))
noncomputable def k279 : KFun := ⟨[rTmp (nat_lit 4) g4], (kSeq (oSet (xMove q0) p4 
oEnd) (kSeq (oSet (xMove g1) p5 
(oSet (xCall q294 [g5]) p6 
(oSet (xMove g6) p7 
(oSetIf (wantT g7) (xMove g1) p8 
(oSetIf (wantT g7) (xLook (lkIntTo .u8 g8)) p9 
(oSetIf (wantT g7) (xTurn (tnBuildSlice q107 [((nat_lit 0), (nat_lit 1), g9)] (nat_lit 1))) p10 
(oSetIf (wantT g7) (xMove g0) p11 
(oSetIf (wantT g7) (xTurn (tnAppend (nat_lit 1) g10 g11)) p12 
(oSetIf (wantT g7) (xCall q38 [g12]) p13 
(oSetIf (wantT g7) (xLook (lkIxVal1 (nat_lit 32) g13 q16)) p14 
(oSetIf (wantT g7) (xLook (lkBin .lss g14 q327)) p15 
(oSet (xLook (lkPick g7 g15 q0)) p16 
(oSet (xMove g16) p4 
oEnd))))))))))))) kRet))⟩
noncomputable def k280 : KFun := ⟨[], (kSeq (oSet (xMove g0) p8 
(oSet (xMove g1) p9 
(oSet (xLook (lkLen .sl g9)) p10 
(oSet (xCall q200 [g8, g10]) p11 
oEnd)))) (kSeq (oSet (xMove g1) p12 
(oSet (xLook (lkLen .sl g12)) p13 
(oSet (xMove q16) p14 
oEnd))) (kBlock (nat_lit 0) (kLoop (kSeq (oSet (xLook (lkBin .lss g14 g13)) p15 
oEnd) (kSeq (kCond g15 kSkip (kExit (nat_lit 0))) (kSeq (kBlock (nat_lit 1) (kSeq (oSet (xLook (lkIxSl (nat_lit 2) g12 g14)) p16 
(oSet (xLook (lkLoadN (nat_lit 2) g16)) p17 
(oSet (xTurn (tnAlloc q53)) p7 
(oDo (xTurn (tnStore (nat_lit 2) g7 g17)) 
oEnd)))) (oSet (xMove g2) p18 
(oSet (xMove g0) p19 
(oSet (xLook (lkLoadN (nat_lit 2) g7)) p20 
(oSet (xCall g18 [g19, g20]) p21 
oEnd)))))) (oSet (xLook (lkBin .add g14 q11)) p22 
(oSet (xMove g22) p14 
oEnd)))))))))⟩
def q328 : OpdF := kC (.func (.func (nat_lit 183)) ⟨[]⟩ ⟨[]⟩)
noncomputable def k281 : KFun := ⟨[], (kSeq (oSet (xTurn (tnBox g1)) p3 
oEnd) (kSeq (oSet (xMove g0) p4 
(oSet (xLook (lkFieldAddr (nat_lit 0) g3)) p5 
(oSet (xLook (lkLoad1 g5)) p6 
(oSet (xCall q328 [g4, g6]) p7 
oEnd)))) (oSet (xMove g0) p8 
(oSet (xLook (lkFieldAddr (nat_lit 1) g3)) p9 
(oSet (xLook (lkLoad1 g9)) p10 
(oSet (xCall q328 [g8, g10]) p11 
oEnd))))))⟩
noncomputable def k282 : KFun := ⟨[], (kSeq (oSet (xMove g0) p8 
(oSet (xMove g1) p9 
(oSet (xLook (lkLen .sl g9)) p10 
(oSet (xCall q200 [g8, g10]) p11 
oEnd)))) (kSeq (oSet (xMove g1) p12 
(oSet (xLook (lkLen .sl g12)) p13 
(oSet (xMove q16) p14 
oEnd))) (kBlock (nat_lit 0) (kLoop (kSeq (oSet (xLook (lkBin .lss g14 g13)) p15 
oEnd) (kSeq (kCond g15 kSkip (kExit (nat_lit 0))) (kSeq (kBlock (nat_lit 1) (kSeq (oSet (xLook (lkIxSl (nat_lit 34) g12 g14)) p16 
(oSet (xLook (lkLoadN (nat_lit 34) g16)) p17 
(oSet (xTurn (tnAlloc q184)) p7 
(oDo (xTurn (tnStore (nat_lit 34) g7 g17)) 
oEnd)))) (oSet (xMove g2) p18 
(oSet (xMove g0) p19 
(oSet (xLook (lkLoadN (nat_lit 34) g7)) p20 
(oSet (xCall g18 [g19, g20]) p21 
oEnd)))))) (oSet (xLook (lkBin .add g14 q11)) p22 
(oSet (xMove g22) p14 
oEnd)))))))))⟩
def q329 : OpdF := kC (.func (.func (nat_lit 143)) ⟨[]⟩ ⟨[]⟩)
noncomputable def k283 : KFun := ⟨[], (kSeq (oSet (xTurn (tnBox g1)) p3 
oEnd) (kSeq (oSet (xMove g0) p4 
(oSet (xLook (lkFieldAddr (nat_lit 0) g3)) p5 
(oSet (xLook (lkLoad1 g5)) p6 
(oSet (xCall q328 [g4, g6]) p7 
oEnd)))) (kSeq (oSet (xMove g0) p8 
(oSet (xLook (lkFieldAddr (nat_lit 1) g3)) p9 
(oSet (xLook (lkLoadN (nat_lit 32) g9)) p10 
(oSet (xCall q329 [g8, g10]) p11 
oEnd)))) (oSet (xMove g0) p12 
(oSet (xLook (lkFieldAddr (nat_lit 33) g3)) p13 
(oSet (xLook (lkLoad1 g13)) p14 
(oSet (xCall q200 [g12, g14]) p15 
oEnd)))))))⟩
noncomputable def k284 : KFun := ⟨[rTmp (nat_lit 2) g2], (kSeq (oSet (xTurn (tnBox g0)) p1 
(oSet (xMove q316) p2 
oEnd)) (kSeq (oSet (xTurn (tnAlloc q56)) p3 
oEnd) (kSeq (kSeq (oSet (xLook (lkFieldAddr (nat_lit 0) g1)) p8 
(oSet (xLook (lkLoad1 g8)) p9 
(oSet (xLook (lkEq false .int g9 q16)) p10 
oEnd))) (kCond g10 (kSeq (kSeq (oSet (xLook (lkFieldAddr (nat_lit 1) g1)) p11 
(oSet (xLook (lkLoad1 g11)) p12 
(oSet (xLook (lkLen .sl g12)) p13 
(oSet (xMove q16) p14 
oEnd)))) (kBlock (nat_lit 0) (kLoop (kSeq (oSet (xLook (lkBin .lss g14 g13)) p15 
oEnd) (kSeq (kCond g15 kSkip (kExit (nat_lit 0))) (kSeq (kBlock (nat_lit 1) (kSeq (oSet (xLook (lkIxSl (nat_lit 2) g12 g14)) p16 
(oSet (xLook (lkLoadN (nat_lit 2) g16)) p17 
(oSet (xTurn (tnAlloc q53)) p5 
(oDo (xTurn (tnStore (nat_lit 2) g5 g17)) 
oEnd)))) (oSet (xLook (lkFieldAddr (nat_lit 0) g3)) p18 
(oSet (xLook (lkLoad1 g18)) p19 
(oSet (xLook (lkFieldAddr (nat_lit 0) g5)) p20 
(oSet (xLook (lkLoad1 g20)) p21 
(oSet (xTurn (tnBuildSlice q127 [((nat_lit 0), (nat_lit 1), g21)] (nat_lit 1))) p22 
(oSet (xTurn (tnAppend (nat_lit 1) g19 g22)) p23 
(oSet (xLook (lkFieldAddr (nat_lit 0) g3)) p24 
(oDo (xTurn (tnStore (nat_lit 1) g24 g23)) 
oEnd)))))))))) (oSet (xLook (lkBin .add g14 q11)) p25 
(oSet (xMove g25) p14 
oEnd)))))))) (kSeq (oSet (xLook (lkLoadN (nat_lit 1) g3)) p26 
(oSet (xLook (lkFieldAddr (nat_lit 1) g1)) p27 
(oSet (xLook (lkLoad1 g27)) p28 
(oSet (xLook (lkBuild q106 [((nat_lit 0), (nat_lit 1), g26), ((nat_lit 1), (nat_lit 1), g28)])) p29 
(oSet (xLook (lkMkIface (nat_lit 434) g29)) p30 
(oSet (xMove g30) p2 
oEnd)))))) kRet)) kSkip)) (kSeq (kSeq (oSet (xLook (lkFieldAddr (nat_lit 2) g1)) p31 
(oSet (xLook (lkLoad1 g31)) p32 
(oSet (xLook (lkLen .sl g32)) p33 
(oSet (xMove q16) p34 
oEnd)))) (kBlock (nat_lit 2) (kLoop (kSeq (oSet (xLook (lkBin .lss g34 g33)) p35 
oEnd) (kSeq (kCond g35 kSkip (kExit (nat_lit 2))) (kSeq (kBlock (nat_lit 3) (kSeq (oSet (xLook (lkIxSl (nat_lit 34) g32 g34)) p36 
(oSet (xLook (lkLoadN (nat_lit 34) g36)) p37 
(oSet (xTurn (tnAlloc q184)) p7 
(oDo (xTurn (tnStore (nat_lit 34) g7 g37)) 
oEnd)))) (oSet (xLook (lkFieldAddr (nat_lit 0) g3)) p38 
(oSet (xLook (lkLoad1 g38)) p39 
(oSet (xLook (lkFieldAddr (nat_lit 0) g7)) p40 
(oSet (xLook (lkLoad1 g40)) p41 
(oSet (xTurn (tnBuildSlice q127 [((nat_lit 0), (nat_lit 1), g41)] (nat_lit 1))) p42 
(oSet (xTurn (tnAppend (nat_lit 1) g39 g42)) p43 
(oSet (xLook (lkFieldAddr (nat_lit 0) g3)) p44 
(oDo (xTurn (tnStore (nat_lit 1) g44 g43)) 
oEnd)))))))))) (oSet (xLook (lkBin .add g34 q11)) p45 
(oSet (xMove g45) p34 
oEnd)))))))) (kSeq (oSet (xLook (lkLoadN (nat_lit 1) g3)) p46 
(oSet (xLook (lkFieldAddr (nat_lit 2) g1)) p47 
(oSet (xLook (lkLoad1 g47)) p48 
(oSet (xLook (lkBuild q106 [((nat_lit 0), (nat_lit 1), g46), ((nat_lit 1), (nat_lit 1), g48)])) p49 
(oSet (xLook (lkMkIface (nat_lit 436) g49)) p50 
(oSet (xMove g50) p2 
oEnd)))))) kRet)))))⟩
noncomputable def k285 : KFun := ⟨[rTmp (nat_lit 4) g4], (kSeq (oSet (xTurn (tnBox g0)) p2 
(oSet (xMove q0) p4 
oEnd)) (kSeq (oSet (xLook (lkFieldAddr (nat_lit 0) g2)) p5 
(oSet (xLook (lkFieldAddr (nat_lit 1) g5)) p6 
(oSet (xLook (lkLoad1 g6)) p7 
(oSet (xLook (lkEq false .str g7 q50)) p8 
(oSet (xMove g8) p9 
(oSetIf (wantF g9) (xMove g1) p10 
(oSetIf (wantF g9) (xLook (lkFieldAddr (nat_lit 0) g2)) p11 
(oSetIf (wantF g9) (xLook (lkFieldAddr (nat_lit 1) g11)) p12 
(oSetIf (wantF g9) (xLook (lkLoad1 g12)) p13 
(oSetIf (wantF g9) (xLook (lkBin .lss g10 g13)) p14 
(oSet (xLook (lkPick g9 q2 g14)) p15 
(oSet (xMove g15) p4 
oEnd)))))))))))) kRet))⟩
def q330 : OpdF := kC (.func (.func (nat_lit 303)) ⟨[]⟩ ⟨[]⟩)
noncomputable def k286 : KFun := ⟨[rTmp (nat_lit 2) g2], (kSeq (oSet (xMove q5) p2 
oEnd) (kSeq (oSet (xMove g0) p3 
(oSet (xCall q330 [q5, g3]) p4 
(oSet (xMove g4) p2 
oEnd))) kRet))⟩
def q331 : OpdF := kC (.func (.func (nat_lit 304)) ⟨[]⟩ ⟨[]⟩)
noncomputable def k287 : KFun := ⟨[], (kSeq (oSet (xMove g0) p3 
(oSet (xLook (lkLen .sl g3)) p4 
(oSet (xMove g4) p2 
oEnd))) (oSet (xMove g0) p5 
(oSet (xMove g2) p6 
(oSet (xMove g2) p7 
(oSet (xLook (lkIntTo .u64 g7)) p8 
(oSet (xCall q289 [g8]) p9 
(oSet (xCall q331 [g5, q16, g6, g9]) p10 
oEnd)))))))⟩
noncomputable def k288 : KFun := ⟨[], (kSeq (oSet (xLook (lkLoad1 g1)) p4 
(oSet (xTurn (tnRangeMap g4)) p5 
oEnd)) (kBlock (nat_lit 0) (kLoop (kSeq (oSet (xNextMap g5) p6 
(oSet (xLook (lkExtract (nat_lit 0) g6)) p7 
oEnd)) (kSeq (kCond g7 kSkip (kExit (nat_lit 0))) (kBlock (nat_lit 1) (kSeq (oSet (xLook (lkEntry g5)) p8 
(oSet (xLook (lkExtract (nat_lit 0) g8)) p9 
(oSet (xMove g9) p3 
oEnd))) (kSeq (oSet (xMove g0) p10 
(oSet (xMove g3) p11 
(oSet (xCall g10 [g11]) p12 
(oSet (xLook (lkUn .not g12)) p13 
oEnd)))) (kCond g13 kRet kSkip)))))))))⟩
noncomputable def k290 : KFun := ⟨[], (kDraw 
(dLook (nat_lit 0) [] [] (lkLoad1 g0) p3 
(dLook (nat_lit 1) [] [] (lkLoad1 g0) p4 
(dLook (nat_lit 2) [] [] (lkLoad1 g1) p5 
(dTurn (nat_lit 3) [(nat_lit 0)] [] true (xCall q286 [g4, q16, g5, q40]) p6 
(dTurn (nat_lit 4) [] [(nat_lit 3)] true (xCall q287 [g3, g6]) p7 
(dLook (nat_lit 5) [] [(nat_lit 3), (nat_lit 4)] (lkBytesTo g7) p8 
(dTurn (nat_lit 6) [] [(nat_lit 3), (nat_lit 4)] true (xTurn (tnStore (nat_lit 1) g2 g8)) noDst (dEnd [(nat_lit 3), (nat_lit 4), (nat_lit 5), (nat_lit 6), (nat_lit 7), (nat_lit 8)])))))))))⟩
def q332 : OpdF := kC (.func (.func (nat_lit 306)) ⟨[]⟩ ⟨[]⟩)
noncomputable def k293 : KFun := ⟨[], (oSet (xMove g0) p4 
(oSet (xMove g0) p5 
(oSet (xLook (lkLen .sl g5)) p6 
(oSet (xMove g1) p7 
(oSet (xLook (lkBin .sub g6 g7)) p8 
(oSet (xCall q332 [g4, g8]) p9 
oEnd))))))⟩
noncomputable def k294d0 : KD := 
(dLook (nat_lit 16) [] [(nat_lit 14)] (lkPick g21 g33 q0) p34 (dEnd [(nat_lit 18), (nat_lit 19), (nat_lit 20), (nat_lit 21), (nat_lit 22), (nat_lit 23), (nat_lit 24), (nat_lit 25), (nat_lit 26), (nat_lit 27), (nat_lit 28), (nat_lit 29), (nat_lit 30), (nat_lit 31), (nat_lit 32), (nat_lit 33), (nat_lit 34)]))
noncomputable def k294d1 : KD := 
(dIf [(nat_lit 14)] (wantT g21) p33 (dLook (nat_lit 15) [] [(nat_lit 14)] (lkBin .lss g32 q16) p33 k294d0) k294d0)
noncomputable def k294d2 : KD := 
(dIf [] (wantT g21) p32 (dTurn (nat_lit 14) [] [] true (xCall g22 [g26, g31]) p32 k294d1) k294d1)
noncomputable def k294d3 : KD := 
(dIf [] (wantT g21) p31 (dLook (nat_lit 13) [] [] (lkLoadN (nat_lit 2) g30) p31 k294d2) k294d2)
noncomputable def k294d4 : KD := 
(dIf [] (wantT g21) p30 (dLook (nat_lit 12) [] [] (lkIxSl (nat_lit 2) g27 g29) p30 k294d3) k294d3)
noncomputable def k294d5 : KD := 
(dIf [] (wantT g21) p29 (dLook (nat_lit 11) [] [] (lkBin .sub g28 q11) p29 k294d4) k294d4)
noncomputable def k294d6 : KD := 
(dIf [] (wantT g21) p28 (dLook (nat_lit 10) [] [] (lkMove g9) p28 k294d5) k294d5)
noncomputable def k294d7 : KD := 
(dIf [] (wantT g21) p27 (dLook (nat_lit 9) [] [] (lkMove g0) p27 k294d6) k294d6)
noncomputable def k294d8 : KD := 
(dIf [] (wantT g21) p26 (dLook (nat_lit 8) [] [] (lkLoadN (nat_lit 2) g25) p26 k294d7) k294d7)
noncomputable def k294d9 : KD := 
(dIf [] (wantT g21) p25 (dLook (nat_lit 7) [] [] (lkIxSl (nat_lit 2) g23 g24) p25 k294d8) k294d8)
noncomputable def k294d10 : KD := 
(dIf [] (wantT g21) p24 (dLook (nat_lit 6) [] [] (lkMove g9) p24 k294d9) k294d9)
noncomputable def k294d11 : KD := 
(dIf [] (wantT g21) p23 (dLook (nat_lit 5) [] [] (lkMove g0) p23 k294d10) k294d10)
noncomputable def k294 : KFun := ⟨[], (kSeq (oSet (xMove g1) p10 
(oSet (xLook (lkBin .add g10 q11)) p11 
(oSet (xMove g11) p8 
oEnd))) (kBlock (nat_lit 0) (kLoop (kSeq (kSeq (oSet (xMove g8) p12 
(oSet (xMove g2) p13 
(oSet (xLook (lkBin .lss g12 g13)) p14 
oEnd))) (kCond g14 kSkip (kExit (nat_lit 0)))) (kSeq (kBlock (nat_lit 1) (kSeq (oSet (xMove g8) p17 
(oSet (xMove g17) p9 
oEnd)) (kBlock (nat_lit 2) (kLoop (kSeq (kSeq (kDraw 
(dLook (nat_lit 0) [] [] (lkMove g9) p18 
(dLook (nat_lit 1) [] [] (lkMove g1) p19 
(dLook (nat_lit 2) [] [] (lkBin .gtr g18 g19) p20 
(dLook (nat_lit 3) [] [] (lkMove g20) p21 
(dIf [] (wantT g21) p22 (dLook (nat_lit 4) [] [] (lkMove g3) p22 k294d11) k294d11)))))) (kCond g34 kSkip (kExit (nat_lit 2)))) (kSeq (kBlock (nat_lit 3) (kDraw 
(dLook (nat_lit 0) [] [] (lkMove g0) p37 
(dLook (nat_lit 1) [] [] (lkMove g9) p38 
(dLook (nat_lit 2) [] [] (lkMove g0) p39 
(dLook (nat_lit 3) [] [] (lkMove g9) p40 
(dLook (nat_lit 4) [] [] (lkBin .sub g40 q11) p41 
(dLook (nat_lit 5) [] [] (lkMove g0) p42 
(dLook (nat_lit 6) [] [] (lkMove g9) p43 
(dLook (nat_lit 7) [] [] (lkBin .sub g43 q11) p44 
(dLook (nat_lit 8) [] [] (lkIxSl (nat_lit 2) g42 g44) p45 
(dLook (nat_lit 9) [] [] (lkLoadN (nat_lit 2) g45) p46 
(dLook (nat_lit 10) [] [] (lkMove g0) p47 
(dLook (nat_lit 11) [] [] (lkMove g9) p48 
(dLook (nat_lit 12) [] [] (lkIxSl (nat_lit 2) g47 g48) p49 
(dLook (nat_lit 13) [] [] (lkLoadN (nat_lit 2) g49) p50 
(dLook (nat_lit 14) [] [] (lkIxSl (nat_lit 2) g37 g38) p51 
(dTurn (nat_lit 15) [] [] true (xTurn (tnStore (nat_lit 2) g51 g46)) noDst 
(dLook (nat_lit 16) [] [(nat_lit 15)] (lkIxSl (nat_lit 2) g39 g41) p52 
(dTurn (nat_lit 17) [] [(nat_lit 15)] true (xTurn (tnStore (nat_lit 2) g52 g50)) noDst (dEnd [(nat_lit 37), (nat_lit 38), (nat_lit 39), (nat_lit 40), (nat_lit 41), (nat_lit 42), (nat_lit 43), (nat_lit 44), (nat_lit 45), (nat_lit 46), (nat_lit 47), (nat_lit 48), (nat_lit 49), (nat_lit 50), (nat_lit 51), (nat_lit 52)]))))))))))))))))))))) (oSet (xMove g9) p35 
(oSet (xLook (lkBin .sub g35 q11)) p36 
(oSet (xMove g36) p9 
oEnd))))))))) (oSet (xMove g8) p15 
(oSet (xLook (lkBin .add g15 q11)) p16 
(oSet (xMove g16) p8 
oEnd))))))))⟩
def q333 : OpdF := kC (.func (.func (nat_lit 307)) ⟨[]⟩ ⟨[]⟩)
noncomputable def k295 : KFun := ⟨[], (kSeq (oSet (xMove g1) p13 
(oSet (xMove g13) p8 
oEnd)) (kSeq (oSet (xMove q16) p9 
oEnd) (kSeq (oSet (xMove g2) p14 
(oSet (xMove g1) p15 
(oSet (xLook (lkBin .sub g14 g15)) p16 
(oSet (xMove g16) p10 
oEnd)))) (kSeq (kSeq (oSet (xMove g10) p17 
(oSet (xLook (lkBin .sub g17 q11)) p18 
(oSet (xLook (lkBin .quo g18 q32)) p19 
(oSet (xMove g19) p11 
oEnd)))) (kBlock (nat_lit 0) (kLoop (kSeq (kSeq (oSet (xMove g11) p20 
(oSet (xLook (lkBin .geq g20 q16)) p21 
oEnd)) (kCond g21 kSkip (kExit (nat_lit 0)))) (kSeq (kBlock (nat_lit 1) (oSet (xMove g0) p24 
(oSet (xMove g11) p25 
(oSet (xMove g10) p26 
(oSet (xMove g8) p27 
(oSet (xMove g3) p28 
(oSet (xCall q333 [g24, g25, g26, g27, g28]) p29 
oEnd))))))) (oSet (xMove g11) p22 
(oSet (xLook (lkBin .sub g22 q11)) p23 
(oSet (xMove g23) p11 
oEnd)))))))) (kSeq (oSet (xMove g10) p30 
(oSet (xLook (lkBin .sub g30 q11)) p31 
(oSet (xMove g31) p12 
oEnd))) (kBlock (nat_lit 2) (kLoop (kSeq (kSeq (oSet (xMove g12) p32 
(oSet (xLook (lkBin .geq g32 q16)) p33 
oEnd)) (kCond g33 kSkip (kExit (nat_lit 2)))) (kSeq (kBlock (nat_lit 3) (kSeq (kDraw 
(dLook (nat_lit 0) [] [] (lkMove g0) p36 
(dLook (nat_lit 1) [] [] (lkMove g8) p37 
(dLook (nat_lit 2) [] [] (lkMove g0) p38 
(dLook (nat_lit 3) [] [] (lkMove g8) p39 
(dLook (nat_lit 4) [] [] (lkMove g12) p40 
(dLook (nat_lit 5) [] [] (lkBin .add g39 g40) p41 
(dLook (nat_lit 6) [] [] (lkMove g0) p42 
(dLook (nat_lit 7) [] [] (lkMove g8) p43 
(dLook (nat_lit 8) [] [] (lkMove g12) p44 
(dLook (nat_lit 9) [] [] (lkBin .add g43 g44) p45 
(dLook (nat_lit 10) [] [] (lkIxSl (nat_lit 2) g42 g45) p46 
(dLook (nat_lit 11) [] [] (lkLoadN (nat_lit 2) g46) p47 
(dLook (nat_lit 12) [] [] (lkMove g0) p48 
(dLook (nat_lit 13) [] [] (lkMove g8) p49 
(dLook (nat_lit 14) [] [] (lkIxSl (nat_lit 2) g48 g49) p50 
(dLook (nat_lit 15) [] [] (lkLoadN (nat_lit 2) g50) p51 
(dLook (nat_lit 16) [] [] (lkIxSl (nat_lit 2) g36 g37) p52 
(dTurn (nat_lit 17) [] [] true (xTurn (tnStore (nat_lit 2) g52 g47)) noDst 
(dLook (nat_lit 18) [] [(nat_lit 17)] (lkIxSl (nat_lit 2) g38 g41) p53 
(dTurn (nat_lit 19) [] [(nat_lit 17)] true (xTurn (tnStore (nat_lit 2) g53 g51)) noDst (dEnd [(nat_lit 36), (nat_lit 37), (nat_lit 38), (nat_lit 39), (nat_lit 40), (nat_lit 41), (nat_lit 42), (nat_lit 43), (nat_lit 44), (nat_lit 45), (nat_lit 46), (nat_lit 47), (nat_lit 48), (nat_lit 49), (nat_lit 50), (nat_lit 51), (nat_lit 52), (nat_lit 53)])))))))))))))))))))))) (oSet (xMove g0) p54 
(oSet (xMove g9) p55 
(oSet (xMove g12) p56 
(oSet (xMove g8) p57 
(oSet (xMove g3) p58 
(oSet (xCall q333 [g54, g55, g56, g57, g58]) p59 
oEnd)))))))) (oSet (xMove g12) p34 
(oSet (xLook (lkBin .sub g34 q11)) p35 
(oSet (xMove g35) p12 
oEnd))))))))))))⟩
def q334 : List Value := [(.int .u64 (.ofNat (nat_lit 0)))]
def q335 : OpdF := kC (.func (.func (nat_lit 257)) ⟨[]⟩ ⟨[]⟩)
def q336 : OpdF := kC (.func (.func (nat_lit 258)) ⟨[]⟩ ⟨[]⟩)
noncomputable def k296 : KFun := ⟨[], (kSeq (oSet (xMove g2) p13 
(oSet (xMove g1) p14 
(oSet (xLook (lkBin .sub g13 g14)) p15 
(oSet (xMove g15) p8 
oEnd)))) (kSeq (oSet (xMove g8) p16 
(oSet (xLook (lkBin .geq g16 q20)) p17 
oEnd)) (kCond g17 (kSeq (oSet (xMove g8) p18 
(oSet (xLook (lkIntTo .u64 g18)) p19 
(oSet (xTurn (tnAlloc q334)) p9 
(oDo (xTurn (tnStore (nat_lit 1) g9 g19)) 
oEnd)))) (kSeq (oSet (xMove g8) p20 
(oSet (xCall q335 [g20]) p21 
(oSet (xMove g21) p10 
oEnd))) (kSeq (oSet (xMove g1) p22 
(oSet (xMove g8) p23 
(oSet (xLook (lkBin .quo g23 q19)) p24 
(oSet (xLook (lkBin .mul g24 q32)) p25 
(oSet (xLook (lkBin .add g22 g25)) p26 
(oSet (xLook (lkBin .sub g26 q11)) p27 
(oSet (xMove g27) p11 
oEnd))))))) (kBlock (nat_lit 0) (kLoop (kSeq (kSeq (oSet (xMove g11) p28 
(oSet (xMove g1) p29 
(oSet (xMove g8) p30 
(oSet (xLook (lkBin .quo g30 q19)) p31 
(oSet (xLook (lkBin .mul g31 q32)) p32 
(oSet (xLook (lkBin .add g29 g32)) p33 
(oSet (xLook (lkBin .add g33 q11)) p34 
(oSet (xLook (lkBin .leq g28 g34)) p35 
oEnd)))))))) (kCond g35 kSkip (kExit (nat_lit 0)))) (kSeq (kBlock (nat_lit 1) (kSeq (oSet (xCall q336 [g9]) p38 
(oSet (xMove g10) p39 
(oSet (xLook (lkBin .sub g39 q308)) p40 
(oSet (xLook (lkBin .and g38 g40)) p41 
(oSet (xLook (lkIntTo .i64 g41)) p42 
(oSet (xMove g42) p12 
oEnd)))))) (kSeq (kSeq (oSet (xMove g12) p43 
(oSet (xMove g8) p44 
(oSet (xLook (lkBin .geq g43 g44)) p45 
oEnd))) (kCond g45 (oSet (xMove g12) p46 
(oSet (xMove g8) p47 
(oSet (xLook (lkBin .sub g46 g47)) p48 
(oSet (xMove g48) p12 
oEnd)))) kSkip)) (kDraw 
(dLook (nat_lit 0) [] [] (lkMove g0) p49 
(dLook (nat_lit 1) [] [] (lkMove g11) p50 
(dLook (nat_lit 2) [] [] (lkMove g0) p51 
(dLook (nat_lit 3) [] [] (lkMove g1) p52 
(dLook (nat_lit 4) [] [] (lkMove g12) p53 
(dLook (nat_lit 5) [] [] (lkBin .add g52 g53) p54 
(dLook (nat_lit 6) [] [] (lkMove g0) p55 
(dLook (nat_lit 7) [] [] (lkMove g1) p56 
(dLook (nat_lit 8) [] [] (lkMove g12) p57 
(dLook (nat_lit 9) [] [] (lkBin .add g56 g57) p58 
(dLook (nat_lit 10) [] [] (lkIxSl (nat_lit 2) g55 g58) p59 
(dLook (nat_lit 11) [] [] (lkLoadN (nat_lit 2) g59) p60 
(dLook (nat_lit 12) [] [] (lkMove g0) p61 
(dLook (nat_lit 13) [] [] (lkMove g11) p62 
(dLook (nat_lit 14) [] [] (lkIxSl (nat_lit 2) g61 g62) p63 
(dLook (nat_lit 15) [] [] (lkLoadN (nat_lit 2) g63) p64 
(dLook (nat_lit 16) [] [] (lkIxSl (nat_lit 2) g49 g50) p65 
(dTurn (nat_lit 17) [] [] true (xTurn (tnStore (nat_lit 2) g65 g60)) noDst 
(dLook (nat_lit 18) [] [(nat_lit 17)] (lkIxSl (nat_lit 2) g51 g54) p66 
(dTurn (nat_lit 19) [] [(nat_lit 17)] true (xTurn (tnStore (nat_lit 2) g66 g64)) noDst (dEnd [(nat_lit 49), (nat_lit 50), (nat_lit 51), (nat_lit 52), (nat_lit 53), (nat_lit 54), (nat_lit 55), (nat_lit 56), (nat_lit 57), (nat_lit 58), (nat_lit 59), (nat_lit 60), (nat_lit 61), (nat_lit 62), (nat_lit 63), (nat_lit 64), (nat_lit 65), (nat_lit 66)]))))))))))))))))))))))))) (oSet (xMove g11) p36 
(oSet (xLook (lkBin .add g36 q11)) p37 
(oSet (xMove g37) p11 
oEnd)))))))))) kSkip)))⟩
def q337 : OpdF := kC (.func (.func (nat_lit 308)) ⟨[]⟩ ⟨[]⟩)
def q338 : OpdF := kC (.func (.func (nat_lit 309)) ⟨[]⟩ ⟨[]⟩)
noncomputable def k297 : KFun := ⟨[rTmp (nat_lit 8) g8, rTmp (nat_lit 9) g9], (kSeq (oSet (xMove q16) p8 
(oSet (xMove q16) p9 
oEnd)) (kSeq (oSet (xMove g2) p15 
(oSet (xMove g1) p16 
(oSet (xLook (lkBin .sub g15 g16)) p17 
(oSet (xMove g17) p10 
oEnd)))) (kSeq (oSet (xTurn (tnAlloc q123)) p11 
oEnd) (kSeq (oSet (xMove g1) p18 
(oSet (xMove g10) p19 
(oSet (xLook (lkBin .quo g19 q19)) p20 
(oSet (xLook (lkBin .mul g20 q11)) p21 
(oSet (xLook (lkBin .add g18 g21)) p22 
(oSet (xMove g22) p12 
oEnd)))))) (kSeq (oSet (xMove g1) p23 
(oSet (xMove g10) p24 
(oSet (xLook (lkBin .quo g24 q19)) p25 
(oSet (xLook (lkBin .mul g25 q32)) p26 
(oSet (xLook (lkBin .add g23 g26)) p27 
(oSet (xMove g27) p13 
oEnd)))))) (kSeq (oSet (xMove g1) p28 
(oSet (xMove g10) p29 
(oSet (xLook (lkBin .quo g29 q19)) p30 
(oSet (xLook (lkBin .mul g30 q40)) p31 
(oSet (xLook (lkBin .add g28 g31)) p32 
(oSet (xMove g32) p14 
oEnd)))))) (kSeq (kSeq (oSet (xMove g10) p33 
(oSet (xLook (lkBin .geq g33 q20)) p34 
oEnd)) (kCond g34 (kSeq (kSeq (oSet (xMove g10) p35 
(oSet (xLook (lkBin .geq g35 q279)) p36 
oEnd)) (kCond g36 (kSeq (oSet (xMove g0) p37 
(oSet (xMove g12) p38 
(oSet (xMove g3) p39 
(oSet (xCall q337 [g37, g38, g11, g39]) p40 
(oSet (xMove g40) p12 
oEnd))))) (kSeq (oSet (xMove g0) p41 
(oSet (xMove g13) p42 
(oSet (xMove g3) p43 
(oSet (xCall q337 [g41, g42, g11, g43]) p44 
(oSet (xMove g44) p13 
oEnd))))) (oSet (xMove g0) p45 
(oSet (xMove g14) p46 
(oSet (xMove g3) p47 
(oSet (xCall q337 [g45, g46, g11, g47]) p48 
(oSet (xMove g48) p14 
oEnd))))))) kSkip)) (oSet (xMove g0) p49 
(oSet (xMove g12) p50 
(oSet (xMove g13) p51 
(oSet (xMove g14) p52 
(oSet (xMove g3) p53 
(oSet (xCall q338 [g49, g50, g51, g52, g11, g53]) p54 
(oSet (xMove g54) p13 
oEnd)))))))) kSkip)) (kSeq (oSet (xLook (lkLoad1 g11)) p55 
oEnd) (kBlock (nat_lit 0) (kSeq (oSet (xLook (lkEq false .int g55 q16)) p58 
(oSet (xMove g58) p57 
oEnd)) (kCond g57 (kSeq (oSet (xMove g13) p59 
(oSet (xMove g59) p8 
(oSet (xMove q11) p9 
oEnd))) kRet) (kSeq (oSet (xLook (lkEq false .int g55 q317)) p61 
(oSet (xMove g61) p60 
oEnd)) (kCond g60 (kSeq (oSet (xMove g13) p62 
(oSet (xMove g62) p8 
(oSet (xMove q32) p9 
oEnd))) kRet) (kSeq (oSet (xMove g13) p56 
(oSet (xMove g56) p8 
(oSet (xMove q16) p9 
oEnd))) kRet))))))))))))))⟩
noncomputable def k298 : KFun := ⟨[], (kSeq (oSet (xMove g1) p10 
(oSet (xMove g10) p8 
oEnd)) (kSeq (oSet (xMove g2) p11 
(oSet (xLook (lkBin .sub g11 q11)) p12 
(oSet (xMove g12) p9 
oEnd))) (kBlock (nat_lit 0) (kLoop (kSeq (kSeq (oSet (xMove g8) p13 
(oSet (xMove g9) p14 
(oSet (xLook (lkBin .lss g13 g14)) p15 
oEnd))) (kCond g15 kSkip (kExit (nat_lit 0)))) (kBlock (nat_lit 1) (kSeq (kDraw 
(dLook (nat_lit 0) [] [] (lkMove g0) p16 
(dLook (nat_lit 1) [] [] (lkMove g8) p17 
(dLook (nat_lit 2) [] [] (lkMove g0) p18 
(dLook (nat_lit 3) [] [] (lkMove g9) p19 
(dLook (nat_lit 4) [] [] (lkMove g0) p20 
(dLook (nat_lit 5) [] [] (lkMove g9) p21 
(dLook (nat_lit 6) [] [] (lkIxSl (nat_lit 2) g20 g21) p22 
(dLook (nat_lit 7) [] [] (lkLoadN (nat_lit 2) g22) p23 
(dLook (nat_lit 8) [] [] (lkMove g0) p24 
(dLook (nat_lit 9) [] [] (lkMove g8) p25 
(dLook (nat_lit 10) [] [] (lkIxSl (nat_lit 2) g24 g25) p26 
(dLook (nat_lit 11) [] [] (lkLoadN (nat_lit 2) g26) p27 
(dLook (nat_lit 12) [] [] (lkIxSl (nat_lit 2) g16 g17) p28 
(dTurn (nat_lit 13) [] [] true (xTurn (tnStore (nat_lit 2) g28 g23)) noDst 
(dLook (nat_lit 14) [] [(nat_lit 13)] (lkIxSl (nat_lit 2) g18 g19) p29 
(dTurn (nat_lit 15) [] [(nat_lit 13)] true (xTurn (tnStore (nat_lit 2) g29 g27)) noDst (dEnd [(nat_lit 16), (nat_lit 17), (nat_lit 18), (nat_lit 19), (nat_lit 20), (nat_lit 21), (nat_lit 22), (nat_lit 23), (nat_lit 24), (nat_lit 25), (nat_lit 26), (nat_lit 27), (nat_lit 28), (nat_lit 29)])))))))))))))))))) (kSeq (oSet (xMove g8) p30 
(oSet (xLook (lkBin .add g30 q11)) p31 
(oSet (xMove g31) p8 
oEnd))) (oSet (xMove g9) p32 
(oSet (xLook (lkBin .sub g32 q11)) p33 
(oSet (xMove g33) p9 
oEnd)))))))))))⟩
noncomputable def k299d0 : KD := 
(dLook (nat_lit 17) [] [(nat_lit 14)] (lkPick g22 g35 q0) p36 (dEnd [(nat_lit 19), (nat_lit 20), (nat_lit 21), (nat_lit 22), (nat_lit 23), (nat_lit 24), (nat_lit 25), (nat_lit 26), (nat_lit 27), (nat_lit 28), (nat_lit 29), (nat_lit 30), (nat_lit 31), (nat_lit 32), (nat_lit 33), (nat_lit 34), (nat_lit 35), (nat_lit 36)]))
noncomputable def k299d1 : KD := 
(dIf [(nat_lit 14)] (wantT g22) p35 (dLook (nat_lit 16) [] [(nat_lit 14)] (lkUn .not g34) p35 k299d0) k299d0)
noncomputable def k299d2 : KD := 
(dIf [(nat_lit 14)] (wantT g22) p34 (dLook (nat_lit 15) [] [(nat_lit 14)] (lkBin .lss g33 q16) p34 k299d1) k299d1)
noncomputable def k299d3 : KD := 
(dIf [] (wantT g22) p33 (dTurn (nat_lit 14) [] [] true (xCall g23 [g27, g32]) p33 k299d2) k299d2)
noncomputable def k299d4 : KD := 
(dIf [] (wantT g22) p32 (dLook (nat_lit 13) [] [] (lkLoadN (nat_lit 2) g31) p32 k299d3) k299d3)
noncomputable def k299d5 : KD := 
(dIf [] (wantT g22) p31 (dLook (nat_lit 12) [] [] (lkIxSl (nat_lit 2) g28 g30) p31 k299d4) k299d4)
noncomputable def k299d6 : KD := 
(dIf [] (wantT g22) p30 (dLook (nat_lit 11) [] [] (lkBin .sub g29 q11) p30 k299d5) k299d5)
noncomputable def k299d7 : KD := 
(dIf [] (wantT g22) p29 (dLook (nat_lit 10) [] [] (lkMove g9) p29 k299d6) k299d6)
noncomputable def k299d8 : KD := 
(dIf [] (wantT g22) p28 (dLook (nat_lit 9) [] [] (lkMove g0) p28 k299d7) k299d7)
noncomputable def k299d9 : KD := 
(dIf [] (wantT g22) p27 (dLook (nat_lit 8) [] [] (lkLoadN (nat_lit 2) g26) p27 k299d8) k299d8)
noncomputable def k299d10 : KD := 
(dIf [] (wantT g22) p26 (dLook (nat_lit 7) [] [] (lkIxSl (nat_lit 2) g24 g25) p26 k299d9) k299d9)
noncomputable def k299d11 : KD := 
(dIf [] (wantT g22) p25 (dLook (nat_lit 6) [] [] (lkMove g9) p25 k299d10) k299d10)
noncomputable def k299d12 : KD := 
(dIf [] (wantT g22) p24 (dLook (nat_lit 5) [] [] (lkMove g0) p24 k299d11) k299d11)
noncomputable def k299 : KFun := ⟨[rTmp (nat_lit 8) g8], (kSeq (oSet (xMove q0) p8 
oEnd) (kSeq (oSet (xMove g1) p13 
(oSet (xLook (lkBin .add g13 q11)) p14 
(oSet (xMove g14) p9 
oEnd))) (kSeq (kSeq (oSet (xMove q16) p10 
oEnd) (kBlock (nat_lit 0) (kLoop (kSeq (kSeq (oSet (xMove g10) p15 
(oSet (xLook (lkBin .lss g15 q76)) p16 
oEnd)) (kCond g16 kSkip (kExit (nat_lit 0)))) (kSeq (kBlock (nat_lit 1) (kSeq (kBlock (nat_lit 2) (kLoop (kSeq (kSeq (kDraw 
(dLook (nat_lit 0) [] [] (lkMove g9) p19 
(dLook (nat_lit 1) [] [] (lkMove g2) p20 
(dLook (nat_lit 2) [] [] (lkBin .lss g19 g20) p21 
(dLook (nat_lit 3) [] [] (lkMove g21) p22 
(dIf [] (wantT g22) p23 (dLook (nat_lit 4) [] [] (lkMove g3) p23 k299d12) k299d12)))))) (kCond g36 kSkip (kExit (nat_lit 2)))) (kBlock (nat_lit 3) (oSet (xMove g9) p37 
(oSet (xLook (lkBin .add g37 q11)) p38 
(oSet (xMove g38) p9 
oEnd))))))) (kSeq (kSeq (oSet (xMove g9) p39 
(oSet (xMove g2) p40 
(oSet (xLook (lkEq false .int g39 g40)) p41 
oEnd))) (kCond g41 (kSeq (oSet (xMove q2) p8 
oEnd) kRet) kSkip)) (kSeq (kSeq (oSet (xMove g2) p42 
(oSet (xMove g1) p43 
(oSet (xLook (lkBin .sub g42 g43)) p44 
(oSet (xLook (lkBin .lss g44 q279)) p45 
oEnd)))) (kCond g45 (kSeq (oSet (xMove q0) p8 
oEnd) kRet) kSkip)) (kSeq (kDraw 
(dLook (nat_lit 0) [] [] (lkMove g0) p46 
(dLook (nat_lit 1) [] [] (lkMove g9) p47 
(dLook (nat_lit 2) [] [] (lkMove g0) p48 
(dLook (nat_lit 3) [] [] (lkMove g9) p49 
(dLook (nat_lit 4) [] [] (lkBin .sub g49 q11) p50 
(dLook (nat_lit 5) [] [] (lkMove g0) p51 
(dLook (nat_lit 6) [] [] (lkMove g9) p52 
(dLook (nat_lit 7) [] [] (lkBin .sub g52 q11) p53 
(dLook (nat_lit 8) [] [] (lkIxSl (nat_lit 2) g51 g53) p54 
(dLook (nat_lit 9) [] [] (lkLoadN (nat_lit 2) g54) p55 
(dLook (nat_lit 10) [] [] (lkMove g0) p56 
(dLook (nat_lit 11) [] [] (lkMove g9) p57 
(dLook (nat_lit 12) [] [] (lkIxSl (nat_lit 2) g56 g57) p58 
(dLook (nat_lit 13) [] [] (lkLoadN (nat_lit 2) g58) p59 
(dLook (nat_lit 14) [] [] (lkIxSl (nat_lit 2) g46 g47) p60 
(dTurn (nat_lit 15) [] [] true (xTurn (tnStore (nat_lit 2) g60 g55)) noDst 
(dLook (nat_lit 16) [] [(nat_lit 15)] (lkIxSl (nat_lit 2) g48 g50) p61 
(dTurn (nat_lit 17) [] [(nat_lit 15)] true (xTurn (tnStore (nat_lit 2) g61 g59)) noDst (dEnd [(nat_lit 46), (nat_lit 47), (nat_lit 48), (nat_lit 49), (nat_lit 50), (nat_lit 51), (nat_lit 52), (nat_lit 53), (nat_lit 54), (nat_lit 55), (nat_lit 56), (nat_lit 57), (nat_lit 58), (nat_lit 59), (nat_lit 60), (nat_lit 61)])))))))))))))))))))) (kSeq (kSeq (oSet (xMove g9) p62 
(oSet (xMove g1) p63 
(oSet (xLook (lkBin .sub g62 g63)) p64 
(oSet (xLook (lkBin .geq g64 q32)) p65 
oEnd)))) (kCond g65 (kSeq (oSet (xMove g9) p66 
(oSet (xLook (lkBin .sub g66 q11)) p67 
(oSet (xMove g67) p11 
oEnd))) (kBlock (nat_lit 4) (kLoop (kSeq (kSeq (oSet (xMove g11) p68 
(oSet (xLook (lkBin .geq g68 q11)) p69 
oEnd)) (kCond g69 kSkip (kExit (nat_lit 4)))) (kSeq (kBlock (nat_lit 5) (kSeq (kSeq (kDraw 
(dLook (nat_lit 0) [] [] (lkMove g3) p72 
(dLook (nat_lit 1) [] [] (lkMove g0) p73 
(dLook (nat_lit 2) [] [] (lkMove g11) p74 
(dLook (nat_lit 3) [] [] (lkIxSl (nat_lit 2) g73 g74) p75 
(dLook (nat_lit 4) [] [] (lkLoadN (nat_lit 2) g75) p76 
(dLook (nat_lit 5) [] [] (lkMove g0) p77 
(dLook (nat_lit 6) [] [] (lkMove g11) p78 
(dLook (nat_lit 7) [] [] (lkBin .sub g78 q11) p79 
(dLook (nat_lit 8) [] [] (lkIxSl (nat_lit 2) g77 g79) p80 
(dLook (nat_lit 9) [] [] (lkLoadN (nat_lit 2) g80) p81 
(dTurn (nat_lit 10) [] [] true (xCall g72 [g76, g81]) p82 
(dLook (nat_lit 11) [] [(nat_lit 10)] (lkBin .lss g82 q16) p83 
(dLook (nat_lit 12) [] [(nat_lit 10)] (lkUn .not g83) p84 (dEnd [(nat_lit 72), (nat_lit 73), (nat_lit 74), (nat_lit 75), (nat_lit 76), (nat_lit 77), (nat_lit 78), (nat_lit 79), (nat_lit 80), (nat_lit 81), (nat_lit 82), (nat_lit 83), (nat_lit 84)]))))))))))))))) (kCond g84 (kExit (nat_lit 4)) kSkip)) (kDraw 
(dLook (nat_lit 0) [] [] (lkMove g0) p85 
(dLook (nat_lit 1) [] [] (lkMove g11) p86 
(dLook (nat_lit 2) [] [] (lkMove g0) p87 
(dLook (nat_lit 3) [] [] (lkMove g11) p88 
(dLook (nat_lit 4) [] [] (lkBin .sub g88 q11) p89 
(dLook (nat_lit 5) [] [] (lkMove g0) p90 
(dLook (nat_lit 6) [] [] (lkMove g11) p91 
(dLook (nat_lit 7) [] [] (lkBin .sub g91 q11) p92 
(dLook (nat_lit 8) [] [] (lkIxSl (nat_lit 2) g90 g92) p93 
(dLook (nat_lit 9) [] [] (lkLoadN (nat_lit 2) g93) p94 
(dLook (nat_lit 10) [] [] (lkMove g0) p95 
(dLook (nat_lit 11) [] [] (lkMove g11) p96 
(dLook (nat_lit 12) [] [] (lkIxSl (nat_lit 2) g95 g96) p97 
(dLook (nat_lit 13) [] [] (lkLoadN (nat_lit 2) g97) p98 
(dLook (nat_lit 14) [] [] (lkIxSl (nat_lit 2) g85 g86) p99 
(dTurn (nat_lit 15) [] [] true (xTurn (tnStore (nat_lit 2) g99 g94)) noDst 
(dLook (nat_lit 16) [] [(nat_lit 15)] (lkIxSl (nat_lit 2) g87 g89) p100 
(dTurn (nat_lit 17) [] [(nat_lit 15)] true (xTurn (tnStore (nat_lit 2) g100 g98)) noDst (dEnd [(nat_lit 85), (nat_lit 86), (nat_lit 87), (nat_lit 88), (nat_lit 89), (nat_lit 90), (nat_lit 91), (nat_lit 92), (nat_lit 93), (nat_lit 94), (nat_lit 95), (nat_lit 96), (nat_lit 97), (nat_lit 98), (nat_lit 99), (nat_lit 100)])))))))))))))))))))))) (oSet (xMove g11) p70 
(oSet (xLook (lkBin .sub g70 q11)) p71 
(oSet (xMove g71) p11 
oEnd)))))))) kSkip)) (kSeq (oSet (xMove g2) p101 
(oSet (xMove g9) p102 
(oSet (xLook (lkBin .sub g101 g102)) p103 
(oSet (xLook (lkBin .geq g103 q32)) p104 
oEnd)))) (kCond g104 (kSeq (oSet (xMove g9) p105 
(oSet (xLook (lkBin .add g105 q11)) p106 
(oSet (xMove g106) p12 
oEnd))) (kBlock (nat_lit 6) (kLoop (kSeq (kSeq (oSet (xMove g12) p107 
(oSet (xMove g2) p108 
(oSet (xLook (lkBin .lss g107 g108)) p109 
oEnd))) (kCond g109 kSkip (kExit (nat_lit 6)))) (kSeq (kBlock (nat_lit 7) (kSeq (kSeq (kDraw 
(dLook (nat_lit 0) [] [] (lkMove g3) p112 
(dLook (nat_lit 1) [] [] (lkMove g0) p113 
(dLook (nat_lit 2) [] [] (lkMove g12) p114 
(dLook (nat_lit 3) [] [] (lkIxSl (nat_lit 2) g113 g114) p115 
(dLook (nat_lit 4) [] [] (lkLoadN (nat_lit 2) g115) p116 
(dLook (nat_lit 5) [] [] (lkMove g0) p117 
(dLook (nat_lit 6) [] [] (lkMove g12) p118 
(dLook (nat_lit 7) [] [] (lkBin .sub g118 q11) p119 
(dLook (nat_lit 8) [] [] (lkIxSl (nat_lit 2) g117 g119) p120 
(dLook (nat_lit 9) [] [] (lkLoadN (nat_lit 2) g120) p121 
(dTurn (nat_lit 10) [] [] true (xCall g112 [g116, g121]) p122 
(dLook (nat_lit 11) [] [(nat_lit 10)] (lkBin .lss g122 q16) p123 
(dLook (nat_lit 12) [] [(nat_lit 10)] (lkUn .not g123) p124 (dEnd [(nat_lit 112), (nat_lit 113), (nat_lit 114), (nat_lit 115), (nat_lit 116), (nat_lit 117), (nat_lit 118), (nat_lit 119), (nat_lit 120), (nat_lit 121), (nat_lit 122), (nat_lit 123), (nat_lit 124)]))))))))))))))) (kCond g124 (kExit (nat_lit 6)) kSkip)) (kDraw 
(dLook (nat_lit 0) [] [] (lkMove g0) p125 
(dLook (nat_lit 1) [] [] (lkMove g12) p126 
(dLook (nat_lit 2) [] [] (lkMove g0) p127 
(dLook (nat_lit 3) [] [] (lkMove g12) p128 
(dLook (nat_lit 4) [] [] (lkBin .sub g128 q11) p129 
(dLook (nat_lit 5) [] [] (lkMove g0) p130 
(dLook (nat_lit 6) [] [] (lkMove g12) p131 
(dLook (nat_lit 7) [] [] (lkBin .sub g131 q11) p132 
(dLook (nat_lit 8) [] [] (lkIxSl (nat_lit 2) g130 g132) p133 
(dLook (nat_lit 9) [] [] (lkLoadN (nat_lit 2) g133) p134 
(dLook (nat_lit 10) [] [] (lkMove g0) p135 
(dLook (nat_lit 11) [] [] (lkMove g12) p136 
(dLook (nat_lit 12) [] [] (lkIxSl (nat_lit 2) g135 g136) p137 
(dLook (nat_lit 13) [] [] (lkLoadN (nat_lit 2) g137) p138 
(dLook (nat_lit 14) [] [] (lkIxSl (nat_lit 2) g125 g126) p139 
(dTurn (nat_lit 15) [] [] true (xTurn (tnStore (nat_lit 2) g139 g134)) noDst 
(dLook (nat_lit 16) [] [(nat_lit 15)] (lkIxSl (nat_lit 2) g127 g129) p140 
(dTurn (nat_lit 17) [] [(nat_lit 15)] true (xTurn (tnStore (nat_lit 2) g140 g138)) noDst (dEnd [(nat_lit 125), (nat_lit 126), (nat_lit 127), (nat_lit 128), (nat_lit 129), (nat_lit 130), (nat_lit 131), (nat_lit 132), (nat_lit 133), (nat_lit 134), (nat_lit 135), (nat_lit 136), (nat_lit 137), (nat_lit 138), (nat_lit 139), (nat_lit 140)])))))))))))))))))))))) (oSet (xMove g12) p110 
(oSet (xLook (lkBin .add g110 q11)) p111 
(oSet (xMove g111) p12 
oEnd)))))))) kSkip)))))))) (oSet (xMove g10) p17 
(oSet (xLook (lkBin .add g17 q11)) p18 
(oSet (xMove g18) p10 
oEnd)))))))) (kSeq (oSet (xMove q0) p8 
oEnd) kRet))))⟩
noncomputable def k300d0 : KD := 
(dLook (nat_lit 16) [] [(nat_lit 13)] (lkPick g34 g46 q0) p47 (dEnd [(nat_lit 31), (nat_lit 32), (nat_lit 33), (nat_lit 34), (nat_lit 35), (nat_lit 36), (nat_lit 37), (nat_lit 38), (nat_lit 39), (nat_lit 40), (nat_lit 41), (nat_lit 42), (nat_lit 43), (nat_lit 44), (nat_lit 45), (nat_lit 46), (nat_lit 47)]))
noncomputable def k300d1 : KD := 
(dIf [(nat_lit 13)] (wantT g34) p46 (dLook (nat_lit 15) [] [(nat_lit 13)] (lkUn .not g45) p46 k300d0) k300d0)
noncomputable def k300d2 : KD := 
(dIf [(nat_lit 13)] (wantT g34) p45 (dLook (nat_lit 14) [] [(nat_lit 13)] (lkBin .lss g44 q16) p45 k300d1) k300d1)
noncomputable def k300d3 : KD := 
(dIf [] (wantT g34) p44 (dTurn (nat_lit 13) [] [] true (xCall g35 [g39, g43]) p44 k300d2) k300d2)
noncomputable def k300d4 : KD := 
(dIf [] (wantT g34) p43 (dLook (nat_lit 12) [] [] (lkLoadN (nat_lit 2) g42) p43 k300d3) k300d3)
noncomputable def k300d5 : KD := 
(dIf [] (wantT g34) p42 (dLook (nat_lit 11) [] [] (lkIxSl (nat_lit 2) g40 g41) p42 k300d4) k300d4)
noncomputable def k300d6 : KD := 
(dIf [] (wantT g34) p41 (dLook (nat_lit 10) [] [] (lkMove g11) p41 k300d5) k300d5)
noncomputable def k300d7 : KD := 
(dIf [] (wantT g34) p40 (dLook (nat_lit 9) [] [] (lkMove g0) p40 k300d6) k300d6)
noncomputable def k300d8 : KD := 
(dIf [] (wantT g34) p39 (dLook (nat_lit 8) [] [] (lkLoadN (nat_lit 2) g38) p39 k300d7) k300d7)
noncomputable def k300d9 : KD := 
(dIf [] (wantT g34) p38 (dLook (nat_lit 7) [] [] (lkIxSl (nat_lit 2) g36 g37) p38 k300d8) k300d8)
noncomputable def k300d10 : KD := 
(dIf [] (wantT g34) p37 (dLook (nat_lit 6) [] [] (lkMove g1) p37 k300d9) k300d9)
noncomputable def k300d11 : KD := 
(dIf [] (wantT g34) p36 (dLook (nat_lit 5) [] [] (lkMove g0) p36 k300d10) k300d10)
noncomputable def k300d12 : KD := 
(dLook (nat_lit 15) [] [(nat_lit 13)] (lkPick g53 g64 q0) p65 (dEnd [(nat_lit 50), (nat_lit 51), (nat_lit 52), (nat_lit 53), (nat_lit 54), (nat_lit 55), (nat_lit 56), (nat_lit 57), (nat_lit 58), (nat_lit 59), (nat_lit 60), (nat_lit 61), (nat_lit 62), (nat_lit 63), (nat_lit 64), (nat_lit 65)]))
noncomputable def k300d13 : KD := 
(dIf [(nat_lit 13)] (wantT g53) p64 (dLook (nat_lit 14) [] [(nat_lit 13)] (lkBin .lss g63 q16) p64 k300d12) k300d12)
noncomputable def k300d14 : KD := 
(dIf [] (wantT g53) p63 (dTurn (nat_lit 13) [] [] true (xCall g54 [g58, g62]) p63 k300d13) k300d13)
noncomputable def k300d15 : KD := 
(dIf [] (wantT g53) p62 (dLook (nat_lit 12) [] [] (lkLoadN (nat_lit 2) g61) p62 k300d14) k300d14)
noncomputable def k300d16 : KD := 
(dIf [] (wantT g53) p61 (dLook (nat_lit 11) [] [] (lkIxSl (nat_lit 2) g59 g60) p61 k300d15) k300d15)
noncomputable def k300d17 : KD := 
(dIf [] (wantT g53) p60 (dLook (nat_lit 10) [] [] (lkMove g12) p60 k300d16) k300d16)
noncomputable def k300d18 : KD := 
(dIf [] (wantT g53) p59 (dLook (nat_lit 9) [] [] (lkMove g0) p59 k300d17) k300d17)
noncomputable def k300d19 : KD := 
(dIf [] (wantT g53) p58 (dLook (nat_lit 8) [] [] (lkLoadN (nat_lit 2) g57) p58 k300d18) k300d18)
noncomputable def k300d20 : KD := 
(dIf [] (wantT g53) p57 (dLook (nat_lit 7) [] [] (lkIxSl (nat_lit 2) g55 g56) p57 k300d19) k300d19)
noncomputable def k300d21 : KD := 
(dIf [] (wantT g53) p56 (dLook (nat_lit 6) [] [] (lkMove g1) p56 k300d20) k300d20)
noncomputable def k300d22 : KD := 
(dIf [] (wantT g53) p55 (dLook (nat_lit 5) [] [] (lkMove g0) p55 k300d21) k300d21)
noncomputable def k300 : KFun := ⟨[rTmp (nat_lit 10) g10], (kSeq (oSet (xMove q16) p10 
oEnd) (kSeq (kDraw 
(dLook (nat_lit 0) [] [] (lkMove g0) p13 
(dLook (nat_lit 1) [] [] (lkMove g1) p14 
(dLook (nat_lit 2) [] [] (lkMove g0) p15 
(dLook (nat_lit 3) [] [] (lkMove g3) p16 
(dLook (nat_lit 4) [] [] (lkMove g0) p17 
(dLook (nat_lit 5) [] [] (lkMove g3) p18 
(dLook (nat_lit 6) [] [] (lkIxSl (nat_lit 2) g17 g18) p19 
(dLook (nat_lit 7) [] [] (lkLoadN (nat_lit 2) g19) p20 
(dLook (nat_lit 8) [] [] (lkMove g0) p21 
(dLook (nat_lit 9) [] [] (lkMove g1) p22 
(dLook (nat_lit 10) [] [] (lkIxSl (nat_lit 2) g21 g22) p23 
(dLook (nat_lit 11) [] [] (lkLoadN (nat_lit 2) g23) p24 
(dLook (nat_lit 12) [] [] (lkIxSl (nat_lit 2) g13 g14) p25 
(dTurn (nat_lit 13) [] [] true (xTurn (tnStore (nat_lit 2) g25 g20)) noDst 
(dLook (nat_lit 14) [] [(nat_lit 13)] (lkIxSl (nat_lit 2) g15 g16) p26 
(dTurn (nat_lit 15) [] [(nat_lit 13)] true (xTurn (tnStore (nat_lit 2) g26 g24)) noDst (dEnd [(nat_lit 13), (nat_lit 14), (nat_lit 15), (nat_lit 16), (nat_lit 17), (nat_lit 18), (nat_lit 19), (nat_lit 20), (nat_lit 21), (nat_lit 22), (nat_lit 23), (nat_lit 24), (nat_lit 25), (nat_lit 26)])))))))))))))))))) (kSeq (oSet (xMove g1) p27 
(oSet (xLook (lkBin .add g27 q11)) p28 
(oSet (xMove g2) p29 
(oSet (xLook (lkBin .sub g29 q11)) p30 
(oSet (xMove g28) p11 
(oSet (xMove g30) p12 
oEnd)))))) (kSeq (kBlock (nat_lit 0) (kLoop (kBlock (nat_lit 1) (kSeq (kBlock (nat_lit 2) (kLoop (kSeq (kSeq (kDraw 
(dLook (nat_lit 0) [] [] (lkMove g11) p31 
(dLook (nat_lit 1) [] [] (lkMove g12) p32 
(dLook (nat_lit 2) [] [] (lkBin .leq g31 g32) p33 
(dLook (nat_lit 3) [] [] (lkMove g33) p34 
(dIf [] (wantT g34) p35 (dLook (nat_lit 4) [] [] (lkMove g4) p35 k300d11) k300d11)))))) (kCond g47 kSkip (kExit (nat_lit 2)))) (kBlock (nat_lit 3) (oSet (xMove g11) p48 
(oSet (xLook (lkBin .add g48 q11)) p49 
(oSet (xMove g49) p11 
oEnd))))))) (kSeq (kBlock (nat_lit 4) (kLoop (kSeq (kSeq (kDraw 
(dLook (nat_lit 0) [] [] (lkMove g11) p50 
(dLook (nat_lit 1) [] [] (lkMove g12) p51 
(dLook (nat_lit 2) [] [] (lkBin .leq g50 g51) p52 
(dLook (nat_lit 3) [] [] (lkMove g52) p53 
(dIf [] (wantT g53) p54 (dLook (nat_lit 4) [] [] (lkMove g4) p54 k300d22) k300d22)))))) (kCond g65 kSkip (kExit (nat_lit 4)))) (kBlock (nat_lit 5) (oSet (xMove g12) p66 
(oSet (xLook (lkBin .sub g66 q11)) p67 
(oSet (xMove g67) p12 
oEnd))))))) (kSeq (kSeq (oSet (xMove g11) p68 
(oSet (xMove g12) p69 
(oSet (xLook (lkBin .gtr g68 g69)) p70 
oEnd))) (kCond g70 (kExit (nat_lit 0)) kSkip)) (kSeq (kDraw 
(dLook (nat_lit 0) [] [] (lkMove g0) p71 
(dLook (nat_lit 1) [] [] (lkMove g11) p72 
(dLook (nat_lit 2) [] [] (lkMove g0) p73 
(dLook (nat_lit 3) [] [] (lkMove g12) p74 
(dLook (nat_lit 4) [] [] (lkMove g0) p75 
(dLook (nat_lit 5) [] [] (lkMove g12) p76 
(dLook (nat_lit 6) [] [] (lkIxSl (nat_lit 2) g75 g76) p77 
(dLook (nat_lit 7) [] [] (lkLoadN (nat_lit 2) g77) p78 
(dLook (nat_lit 8) [] [] (lkMove g0) p79 
(dLook (nat_lit 9) [] [] (lkMove g11) p80 
(dLook (nat_lit 10) [] [] (lkIxSl (nat_lit 2) g79 g80) p81 
(dLook (nat_lit 11) [] [] (lkLoadN (nat_lit 2) g81) p82 
(dLook (nat_lit 12) [] [] (lkIxSl (nat_lit 2) g71 g72) p83 
(dTurn (nat_lit 13) [] [] true (xTurn (tnStore (nat_lit 2) g83 g78)) noDst 
(dLook (nat_lit 14) [] [(nat_lit 13)] (lkIxSl (nat_lit 2) g73 g74) p84 
(dTurn (nat_lit 15) [] [(nat_lit 13)] true (xTurn (tnStore (nat_lit 2) g84 g82)) noDst (dEnd [(nat_lit 71), (nat_lit 72), (nat_lit 73), (nat_lit 74), (nat_lit 75), (nat_lit 76), (nat_lit 77), (nat_lit 78), (nat_lit 79), (nat_lit 80), (nat_lit 81), (nat_lit 82), (nat_lit 83), (nat_lit 84)])))))))))))))))))) (kSeq (oSet (xMove g11) p85 
(oSet (xLook (lkBin .add g85 q11)) p86 
(oSet (xMove g86) p11 
oEnd))) (oSet (xMove g12) p87 
(oSet (xLook (lkBin .sub g87 q11)) p88 
(oSet (xMove g88) p12 
oEnd))))))))))) (kSeq (oSet (xMove g11) p89 
(oSet (xMove g89) p10 
oEnd)) kRet)))))⟩
noncomputable def k301d0 : KD := 
(dLook (nat_lit 15) [] [(nat_lit 13)] (lkPick g35 g46 q0) p47 (dEnd [(nat_lit 32), (nat_lit 33), (nat_lit 34), (nat_lit 35), (nat_lit 36), (nat_lit 37), (nat_lit 38), (nat_lit 39), (nat_lit 40), (nat_lit 41), (nat_lit 42), (nat_lit 43), (nat_lit 44), (nat_lit 45), (nat_lit 46), (nat_lit 47)]))
noncomputable def k301d1 : KD := 
(dIf [(nat_lit 13)] (wantT g35) p46 (dLook (nat_lit 14) [] [(nat_lit 13)] (lkBin .lss g45 q16) p46 k301d0) k301d0)
noncomputable def k301d2 : KD := 
(dIf [] (wantT g35) p45 (dTurn (nat_lit 13) [] [] true (xCall g36 [g40, g44]) p45 k301d1) k301d1)
noncomputable def k301d3 : KD := 
(dIf [] (wantT g35) p44 (dLook (nat_lit 12) [] [] (lkLoadN (nat_lit 2) g43) p44 k301d2) k301d2)
noncomputable def k301d4 : KD := 
(dIf [] (wantT g35) p43 (dLook (nat_lit 11) [] [] (lkIxSl (nat_lit 2) g41 g42) p43 k301d3) k301d3)
noncomputable def k301d5 : KD := 
(dIf [] (wantT g35) p42 (dLook (nat_lit 10) [] [] (lkMove g1) p42 k301d4) k301d4)
noncomputable def k301d6 : KD := 
(dIf [] (wantT g35) p41 (dLook (nat_lit 9) [] [] (lkMove g0) p41 k301d5) k301d5)
noncomputable def k301d7 : KD := 
(dIf [] (wantT g35) p40 (dLook (nat_lit 8) [] [] (lkLoadN (nat_lit 2) g39) p40 k301d6) k301d6)
noncomputable def k301d8 : KD := 
(dIf [] (wantT g35) p39 (dLook (nat_lit 7) [] [] (lkIxSl (nat_lit 2) g37 g38) p39 k301d7) k301d7)
noncomputable def k301d9 : KD := 
(dIf [] (wantT g35) p38 (dLook (nat_lit 6) [] [] (lkMove g12) p38 k301d8) k301d8)
noncomputable def k301d10 : KD := 
(dIf [] (wantT g35) p37 (dLook (nat_lit 5) [] [] (lkMove g0) p37 k301d9) k301d9)
noncomputable def k301d11 : KD := 
(dLook (nat_lit 16) [] [(nat_lit 13)] (lkPick g53 g65 q0) p66 (dEnd [(nat_lit 50), (nat_lit 51), (nat_lit 52), (nat_lit 53), (nat_lit 54), (nat_lit 55), (nat_lit 56), (nat_lit 57), (nat_lit 58), (nat_lit 59), (nat_lit 60), (nat_lit 61), (nat_lit 62), (nat_lit 63), (nat_lit 64), (nat_lit 65), (nat_lit 66)]))
noncomputable def k301d12 : KD := 
(dIf [(nat_lit 13)] (wantT g53) p65 (dLook (nat_lit 15) [] [(nat_lit 13)] (lkUn .not g64) p65 k301d11) k301d11)
noncomputable def k301d13 : KD := 
(dIf [(nat_lit 13)] (wantT g53) p64 (dLook (nat_lit 14) [] [(nat_lit 13)] (lkBin .lss g63 q16) p64 k301d12) k301d12)
noncomputable def k301d14 : KD := 
(dIf [] (wantT g53) p63 (dTurn (nat_lit 13) [] [] true (xCall g54 [g58, g62]) p63 k301d13) k301d13)
noncomputable def k301d15 : KD := 
(dIf [] (wantT g53) p62 (dLook (nat_lit 12) [] [] (lkLoadN (nat_lit 2) g61) p62 k301d14) k301d14)
noncomputable def k301d16 : KD := 
(dIf [] (wantT g53) p61 (dLook (nat_lit 11) [] [] (lkIxSl (nat_lit 2) g59 g60) p61 k301d15) k301d15)
noncomputable def k301d17 : KD := 
(dIf [] (wantT g53) p60 (dLook (nat_lit 10) [] [] (lkMove g1) p60 k301d16) k301d16)
noncomputable def k301d18 : KD := 
(dIf [] (wantT g53) p59 (dLook (nat_lit 9) [] [] (lkMove g0) p59 k301d17) k301d17)
noncomputable def k301d19 : KD := 
(dIf [] (wantT g53) p58 (dLook (nat_lit 8) [] [] (lkLoadN (nat_lit 2) g57) p58 k301d18) k301d18)
noncomputable def k301d20 : KD := 
(dIf [] (wantT g53) p57 (dLook (nat_lit 7) [] [] (lkIxSl (nat_lit 2) g55 g56) p57 k301d19) k301d19)
noncomputable def k301d21 : KD := 
(dIf [] (wantT g53) p56 (dLook (nat_lit 6) [] [] (lkMove g13) p56 k301d20) k301d20)
noncomputable def k301d22 : KD := 
(dIf [] (wantT g53) p55 (dLook (nat_lit 5) [] [] (lkMove g0) p55 k301d21) k301d21)
noncomputable def k301d23 : KD := 
(dLook (nat_lit 15) [] [(nat_lit 13)] (lkPick g108 g119 q0) p120 (dEnd [(nat_lit 105), (nat_lit 106), (nat_lit 107), (nat_lit 108), (nat_lit 109), (nat_lit 110), (nat_lit 111), (nat_lit 112), (nat_lit 113), (nat_lit 114), (nat_lit 115), (nat_lit 116), (nat_lit 117), (nat_lit 118), (nat_lit 119), (nat_lit 120)]))
noncomputable def k301d24 : KD := 
(dIf [(nat_lit 13)] (wantT g108) p119 (dLook (nat_lit 14) [] [(nat_lit 13)] (lkBin .lss g118 q16) p119 k301d23) k301d23)
noncomputable def k301d25 : KD := 
(dIf [] (wantT g108) p118 (dTurn (nat_lit 13) [] [] true (xCall g109 [g113, g117]) p118 k301d24) k301d24)
noncomputable def k301d26 : KD := 
(dIf [] (wantT g108) p117 (dLook (nat_lit 12) [] [] (lkLoadN (nat_lit 2) g116) p117 k301d25) k301d25)
noncomputable def k301d27 : KD := 
(dIf [] (wantT g108) p116 (dLook (nat_lit 11) [] [] (lkIxSl (nat_lit 2) g114 g115) p116 k301d26) k301d26)
noncomputable def k301d28 : KD := 
(dIf [] (wantT g108) p115 (dLook (nat_lit 10) [] [] (lkMove g1) p115 k301d27) k301d27)
noncomputable def k301d29 : KD := 
(dIf [] (wantT g108) p114 (dLook (nat_lit 9) [] [] (lkMove g0) p114 k301d28) k301d28)
noncomputable def k301d30 : KD := 
(dIf [] (wantT g108) p113 (dLook (nat_lit 8) [] [] (lkLoadN (nat_lit 2) g112) p113 k301d29) k301d29)
noncomputable def k301d31 : KD := 
(dIf [] (wantT g108) p112 (dLook (nat_lit 7) [] [] (lkIxSl (nat_lit 2) g110 g111) p112 k301d30) k301d30)
noncomputable def k301d32 : KD := 
(dIf [] (wantT g108) p111 (dLook (nat_lit 6) [] [] (lkMove g12) p111 k301d31) k301d31)
noncomputable def k301d33 : KD := 
(dIf [] (wantT g108) p110 (dLook (nat_lit 5) [] [] (lkMove g0) p110 k301d32) k301d32)
noncomputable def k301d34 : KD := 
(dLook (nat_lit 16) [] [(nat_lit 13)] (lkPick g126 g138 q0) p139 (dEnd [(nat_lit 123), (nat_lit 124), (nat_lit 125), (nat_lit 126), (nat_lit 127), (nat_lit 128), (nat_lit 129), (nat_lit 130), (nat_lit 131), (nat_lit 132), (nat_lit 133), (nat_lit 134), (nat_lit 135), (nat_lit 136), (nat_lit 137), (nat_lit 138), (nat_lit 139)]))
noncomputable def k301d35 : KD := 
(dIf [(nat_lit 13)] (wantT g126) p138 (dLook (nat_lit 15) [] [(nat_lit 13)] (lkUn .not g137) p138 k301d34) k301d34)
noncomputable def k301d36 : KD := 
(dIf [(nat_lit 13)] (wantT g126) p137 (dLook (nat_lit 14) [] [(nat_lit 13)] (lkBin .lss g136 q16) p137 k301d35) k301d35)
noncomputable def k301d37 : KD := 
(dIf [] (wantT g126) p136 (dTurn (nat_lit 13) [] [] true (xCall g127 [g131, g135]) p136 k301d36) k301d36)
noncomputable def k301d38 : KD := 
(dIf [] (wantT g126) p135 (dLook (nat_lit 12) [] [] (lkLoadN (nat_lit 2) g134) p135 k301d37) k301d37)
noncomputable def k301d39 : KD := 
(dIf [] (wantT g126) p134 (dLook (nat_lit 11) [] [] (lkIxSl (nat_lit 2) g132 g133) p134 k301d38) k301d38)
noncomputable def k301d40 : KD := 
(dIf [] (wantT g126) p133 (dLook (nat_lit 10) [] [] (lkMove g1) p133 k301d39) k301d39)
noncomputable def k301d41 : KD := 
(dIf [] (wantT g126) p132 (dLook (nat_lit 9) [] [] (lkMove g0) p132 k301d40) k301d40)
noncomputable def k301d42 : KD := 
(dIf [] (wantT g126) p131 (dLook (nat_lit 8) [] [] (lkLoadN (nat_lit 2) g130) p131 k301d41) k301d41)
noncomputable def k301d43 : KD := 
(dIf [] (wantT g126) p130 (dLook (nat_lit 7) [] [] (lkIxSl (nat_lit 2) g128 g129) p130 k301d42) k301d42)
noncomputable def k301d44 : KD := 
(dIf [] (wantT g126) p129 (dLook (nat_lit 6) [] [] (lkMove g13) p129 k301d43) k301d43)
noncomputable def k301d45 : KD := 
(dIf [] (wantT g126) p128 (dLook (nat_lit 5) [] [] (lkMove g0) p128 k301d44) k301d44)
noncomputable def k301 : KFun := ⟨[rTmp (nat_lit 10) g10, rTmp (nat_lit 11) g11], (kSeq (oSet (xMove q16) p10 
(oSet (xMove q0) p11 
oEnd)) (kSeq (kDraw 
(dLook (nat_lit 0) [] [] (lkMove g0) p14 
(dLook (nat_lit 1) [] [] (lkMove g1) p15 
(dLook (nat_lit 2) [] [] (lkMove g0) p16 
(dLook (nat_lit 3) [] [] (lkMove g3) p17 
(dLook (nat_lit 4) [] [] (lkMove g0) p18 
(dLook (nat_lit 5) [] [] (lkMove g3) p19 
(dLook (nat_lit 6) [] [] (lkIxSl (nat_lit 2) g18 g19) p20 
(dLook (nat_lit 7) [] [] (lkLoadN (nat_lit 2) g20) p21 
(dLook (nat_lit 8) [] [] (lkMove g0) p22 
(dLook (nat_lit 9) [] [] (lkMove g1) p23 
(dLook (nat_lit 10) [] [] (lkIxSl (nat_lit 2) g22 g23) p24 
(dLook (nat_lit 11) [] [] (lkLoadN (nat_lit 2) g24) p25 
(dLook (nat_lit 12) [] [] (lkIxSl (nat_lit 2) g14 g15) p26 
(dTurn (nat_lit 13) [] [] true (xTurn (tnStore (nat_lit 2) g26 g21)) noDst 
(dLook (nat_lit 14) [] [(nat_lit 13)] (lkIxSl (nat_lit 2) g16 g17) p27 
(dTurn (nat_lit 15) [] [(nat_lit 13)] true (xTurn (tnStore (nat_lit 2) g27 g25)) noDst (dEnd [(nat_lit 14), (nat_lit 15), (nat_lit 16), (nat_lit 17), (nat_lit 18), (nat_lit 19), (nat_lit 20), (nat_lit 21), (nat_lit 22), (nat_lit 23), (nat_lit 24), (nat_lit 25), (nat_lit 26), (nat_lit 27)])))))))))))))))))) (kSeq (oSet (xMove g1) p28 
(oSet (xLook (lkBin .add g28 q11)) p29 
(oSet (xMove g2) p30 
(oSet (xLook (lkBin .sub g30 q11)) p31 
(oSet (xMove g29) p12 
(oSet (xMove g31) p13 
oEnd)))))) (kSeq (kBlock (nat_lit 0) (kLoop (kSeq (kSeq (kDraw 
(dLook (nat_lit 0) [] [] (lkMove g12) p32 
(dLook (nat_lit 1) [] [] (lkMove g13) p33 
(dLook (nat_lit 2) [] [] (lkBin .leq g32 g33) p34 
(dLook (nat_lit 3) [] [] (lkMove g34) p35 
(dIf [] (wantT g35) p36 (dLook (nat_lit 4) [] [] (lkMove g4) p36 k301d10) k301d10)))))) (kCond g47 kSkip (kExit (nat_lit 0)))) (kBlock (nat_lit 1) (oSet (xMove g12) p48 
(oSet (xLook (lkBin .add g48 q11)) p49 
(oSet (xMove g49) p12 
oEnd))))))) (kSeq (kBlock (nat_lit 2) (kLoop (kSeq (kSeq (kDraw 
(dLook (nat_lit 0) [] [] (lkMove g12) p50 
(dLook (nat_lit 1) [] [] (lkMove g13) p51 
(dLook (nat_lit 2) [] [] (lkBin .leq g50 g51) p52 
(dLook (nat_lit 3) [] [] (lkMove g52) p53 
(dIf [] (wantT g53) p54 (dLook (nat_lit 4) [] [] (lkMove g4) p54 k301d22) k301d22)))))) (kCond g66 kSkip (kExit (nat_lit 2)))) (kBlock (nat_lit 3) (oSet (xMove g13) p67 
(oSet (xLook (lkBin .sub g67 q11)) p68 
(oSet (xMove g68) p13 
oEnd))))))) (kSeq (kSeq (oSet (xMove g12) p69 
(oSet (xMove g13) p70 
(oSet (xLook (lkBin .gtr g69 g70)) p71 
oEnd))) (kCond g71 (kSeq (kDraw 
(dLook (nat_lit 0) [] [] (lkMove g0) p72 
(dLook (nat_lit 1) [] [] (lkMove g13) p73 
(dLook (nat_lit 2) [] [] (lkMove g0) p74 
(dLook (nat_lit 3) [] [] (lkMove g1) p75 
(dLook (nat_lit 4) [] [] (lkMove g0) p76 
(dLook (nat_lit 5) [] [] (lkMove g1) p77 
(dLook (nat_lit 6) [] [] (lkIxSl (nat_lit 2) g76 g77) p78 
(dLook (nat_lit 7) [] [] (lkLoadN (nat_lit 2) g78) p79 
(dLook (nat_lit 8) [] [] (lkMove g0) p80 
(dLook (nat_lit 9) [] [] (lkMove g13) p81 
(dLook (nat_lit 10) [] [] (lkIxSl (nat_lit 2) g80 g81) p82 
(dLook (nat_lit 11) [] [] (lkLoadN (nat_lit 2) g82) p83 
(dLook (nat_lit 12) [] [] (lkIxSl (nat_lit 2) g72 g73) p84 
(dTurn (nat_lit 13) [] [] true (xTurn (tnStore (nat_lit 2) g84 g79)) noDst 
(dLook (nat_lit 14) [] [(nat_lit 13)] (lkIxSl (nat_lit 2) g74 g75) p85 
(dTurn (nat_lit 15) [] [(nat_lit 13)] true (xTurn (tnStore (nat_lit 2) g85 g83)) noDst (dEnd [(nat_lit 72), (nat_lit 73), (nat_lit 74), (nat_lit 75), (nat_lit 76), (nat_lit 77), (nat_lit 78), (nat_lit 79), (nat_lit 80), (nat_lit 81), (nat_lit 82), (nat_lit 83), (nat_lit 84), (nat_lit 85)])))))))))))))))))) (kSeq (oSet (xMove g13) p86 
(oSet (xMove g86) p10 
(oSet (xMove q2) p11 
oEnd))) kRet)) kSkip)) (kSeq (kDraw 
(dLook (nat_lit 0) [] [] (lkMove g0) p87 
(dLook (nat_lit 1) [] [] (lkMove g12) p88 
(dLook (nat_lit 2) [] [] (lkMove g0) p89 
(dLook (nat_lit 3) [] [] (lkMove g13) p90 
(dLook (nat_lit 4) [] [] (lkMove g0) p91 
(dLook (nat_lit 5) [] [] (lkMove g13) p92 
(dLook (nat_lit 6) [] [] (lkIxSl (nat_lit 2) g91 g92) p93 
(dLook (nat_lit 7) [] [] (lkLoadN (nat_lit 2) g93) p94 
(dLook (nat_lit 8) [] [] (lkMove g0) p95 
(dLook (nat_lit 9) [] [] (lkMove g12) p96 
(dLook (nat_lit 10) [] [] (lkIxSl (nat_lit 2) g95 g96) p97 
(dLook (nat_lit 11) [] [] (lkLoadN (nat_lit 2) g97) p98 
(dLook (nat_lit 12) [] [] (lkIxSl (nat_lit 2) g87 g88) p99 
(dTurn (nat_lit 13) [] [] true (xTurn (tnStore (nat_lit 2) g99 g94)) noDst 
(dLook (nat_lit 14) [] [(nat_lit 13)] (lkIxSl (nat_lit 2) g89 g90) p100 
(dTurn (nat_lit 15) [] [(nat_lit 13)] true (xTurn (tnStore (nat_lit 2) g100 g98)) noDst (dEnd [(nat_lit 87), (nat_lit 88), (nat_lit 89), (nat_lit 90), (nat_lit 91), (nat_lit 92), (nat_lit 93), (nat_lit 94), (nat_lit 95), (nat_lit 96), (nat_lit 97), (nat_lit 98), (nat_lit 99), (nat_lit 100)])))))))))))))))))) (kSeq (oSet (xMove g12) p101 
(oSet (xLook (lkBin .add g101 q11)) p102 
(oSet (xMove g102) p12 
oEnd))) (kSeq (oSet (xMove g13) p103 
(oSet (xLook (lkBin .sub g103 q11)) p104 
(oSet (xMove g104) p13 
oEnd))) (kSeq (kBlock (nat_lit 4) (kLoop (kBlock (nat_lit 5) (kSeq (kBlock (nat_lit 6) (kLoop (kSeq (kSeq (kDraw 
(dLook (nat_lit 0) [] [] (lkMove g12) p105 
(dLook (nat_lit 1) [] [] (lkMove g13) p106 
(dLook (nat_lit 2) [] [] (lkBin .leq g105 g106) p107 
(dLook (nat_lit 3) [] [] (lkMove g107) p108 
(dIf [] (wantT g108) p109 (dLook (nat_lit 4) [] [] (lkMove g4) p109 k301d33) k301d33)))))) (kCond g120 kSkip (kExit (nat_lit 6)))) (kBlock (nat_lit 7) (oSet (xMove g12) p121 
(oSet (xLook (lkBin .add g121 q11)) p122 
(oSet (xMove g122) p12 
oEnd))))))) (kSeq (kBlock (nat_lit 8) (kLoop (kSeq (kSeq (kDraw 
(dLook (nat_lit 0) [] [] (lkMove g12) p123 
(dLook (nat_lit 1) [] [] (lkMove g13) p124 
(dLook (nat_lit 2) [] [] (lkBin .leq g123 g124) p125 
(dLook (nat_lit 3) [] [] (lkMove g125) p126 
(dIf [] (wantT g126) p127 (dLook (nat_lit 4) [] [] (lkMove g4) p127 k301d45) k301d45)))))) (kCond g139 kSkip (kExit (nat_lit 8)))) (kBlock (nat_lit 9) (oSet (xMove g13) p140 
(oSet (xLook (lkBin .sub g140 q11)) p141 
(oSet (xMove g141) p13 
oEnd))))))) (kSeq (kSeq (oSet (xMove g12) p142 
(oSet (xMove g13) p143 
(oSet (xLook (lkBin .gtr g142 g143)) p144 
oEnd))) (kCond g144 (kExit (nat_lit 4)) kSkip)) (kSeq (kDraw 
(dLook (nat_lit 0) [] [] (lkMove g0) p145 
(dLook (nat_lit 1) [] [] (lkMove g12) p146 
(dLook (nat_lit 2) [] [] (lkMove g0) p147 
(dLook (nat_lit 3) [] [] (lkMove g13) p148 
(dLook (nat_lit 4) [] [] (lkMove g0) p149 
(dLook (nat_lit 5) [] [] (lkMove g13) p150 
(dLook (nat_lit 6) [] [] (lkIxSl (nat_lit 2) g149 g150) p151 
(dLook (nat_lit 7) [] [] (lkLoadN (nat_lit 2) g151) p152 
(dLook (nat_lit 8) [] [] (lkMove g0) p153 
(dLook (nat_lit 9) [] [] (lkMove g12) p154 
(dLook (nat_lit 10) [] [] (lkIxSl (nat_lit 2) g153 g154) p155 
(dLook (nat_lit 11) [] [] (lkLoadN (nat_lit 2) g155) p156 
(dLook (nat_lit 12) [] [] (lkIxSl (nat_lit 2) g145 g146) p157 
(dTurn (nat_lit 13) [] [] true (xTurn (tnStore (nat_lit 2) g157 g152)) noDst 
(dLook (nat_lit 14) [] [(nat_lit 13)] (lkIxSl (nat_lit 2) g147 g148) p158 
(dTurn (nat_lit 15) [] [(nat_lit 13)] true (xTurn (tnStore (nat_lit 2) g158 g156)) noDst (dEnd [(nat_lit 145), (nat_lit 146), (nat_lit 147), (nat_lit 148), (nat_lit 149), (nat_lit 150), (nat_lit 151), (nat_lit 152), (nat_lit 153), (nat_lit 154), (nat_lit 155), (nat_lit 156), (nat_lit 157), (nat_lit 158)])))))))))))))))))) (kSeq (oSet (xMove g12) p159 
(oSet (xLook (lkBin .add g159 q11)) p160 
(oSet (xMove g160) p12 
oEnd))) (oSet (xMove g13) p161 
(oSet (xLook (lkBin .sub g161 q11)) p162 
(oSet (xMove g162) p13 
oEnd))))))))))) (kSeq (kDraw 
(dLook (nat_lit 0) [] [] (lkMove g0) p163 
(dLook (nat_lit 1) [] [] (lkMove g13) p164 
(dLook (nat_lit 2) [] [] (lkMove g0) p165 
(dLook (nat_lit 3) [] [] (lkMove g1) p166 
(dLook (nat_lit 4) [] [] (lkMove g0) p167 
(dLook (nat_lit 5) [] [] (lkMove g1) p168 
(dLook (nat_lit 6) [] [] (lkIxSl (nat_lit 2) g167 g168) p169 
(dLook (nat_lit 7) [] [] (lkLoadN (nat_lit 2) g169) p170 
(dLook (nat_lit 8) [] [] (lkMove g0) p171 
(dLook (nat_lit 9) [] [] (lkMove g13) p172 
(dLook (nat_lit 10) [] [] (lkIxSl (nat_lit 2) g171 g172) p173 
(dLook (nat_lit 11) [] [] (lkLoadN (nat_lit 2) g173) p174 
(dLook (nat_lit 12) [] [] (lkIxSl (nat_lit 2) g163 g164) p175 
(dTurn (nat_lit 13) [] [] true (xTurn (tnStore (nat_lit 2) g175 g170)) noDst 
(dLook (nat_lit 14) [] [(nat_lit 13)] (lkIxSl (nat_lit 2) g165 g166) p176 
(dTurn (nat_lit 15) [] [(nat_lit 13)] true (xTurn (tnStore (nat_lit 2) g176 g174)) noDst (dEnd [(nat_lit 163), (nat_lit 164), (nat_lit 165), (nat_lit 166), (nat_lit 167), (nat_lit 168), (nat_lit 169), (nat_lit 170), (nat_lit 171), (nat_lit 172), (nat_lit 173), (nat_lit 174), (nat_lit 175), (nat_lit 176)])))))))))))))))))) (kSeq (oSet (xMove g13) p177 
(oSet (xMove g177) p10 
(oSet (xMove q0) p11 
oEnd))) kRet))))))))))))⟩
noncomputable def k302 : KFun := ⟨[rTmp (nat_lit 2) g2], (kSeq (oSet (xMove q0) p2 
oEnd) (kSeq (oSet (xMove g0) p3 
(oSet (xMove g0) p4 
(oSet (xLook (lkEq true .int g3 g4)) p5 
(oSet (xMove g5) p2 
oEnd)))) kRet))⟩
def q339 : CCode := (.region false [⟨none, (some (nat_lit 5)), (.move (.tmp (nat_lit 7))), (nat_lit 0), [], []⟩])
def q340 : CCode := (.block (nat_lit 1) (.region false [⟨none, (some (nat_lit 8)), (.load1 (.tmp (nat_lit 2))), (nat_lit 0), [], []⟩,
⟨none, (some (nat_lit 9)), (.move (.tmp (nat_lit 5))), (nat_lit 1), [], []⟩,
⟨none, (some (nat_lit 10)), (.buildSlice [(.string ⟨⟨[]⟩⟩)] [⟨(nat_lit 0), (nat_lit 1), (.tmp (nat_lit 9))⟩] (nat_lit 1)), (nat_lit 2), [], []⟩,
⟨none, (some (nat_lit 11)), (.append (nat_lit 1) (.tmp (nat_lit 8)) (.tmp (nat_lit 10))), (nat_lit 3), [], []⟩,
⟨none, none, (.store (nat_lit 1) (.tmp (nat_lit 2)) (.tmp (nat_lit 11))), (nat_lit 4), [], []⟩]))
noncomputable def k303 : KFun := ⟨[rTmp (nat_lit 4) g4], (kSeq (oSet (xTurn (tnBox g0)) p2 
(oSet (xMove q5) p4 
oEnd)) (kSeq (kSeq (oSet (xMove g1) p6 
oEnd) (kBlock (nat_lit 0) (kRange g6 [(nat_lit 7)] q339 q340))) (kSeq (oSet (xLook (lkLoad1 g2)) p12 
(oSet (xMove g12) p4 
oEnd)) kRet)))⟩
def q341 : OpdF := kC (.func (.func (nat_lit 310)) ⟨[]⟩ ⟨[]⟩)
def q342 : OpdF := kC (.func (.func (nat_lit 311)) ⟨[]⟩ ⟨[]⟩)
def q343 : OpdF := kC (.func (.func (nat_lit 312)) ⟨[]⟩ ⟨[]⟩)
def q344 : OpdF := kC (.func (.func (nat_lit 313)) ⟨[]⟩ ⟨[]⟩)
def q345 : OpdF := kC (.func (.func (nat_lit 314)) ⟨[]⟩ ⟨[]⟩)
def q346 : OpdF := kC (.func (.func (nat_lit 315)) ⟨[]⟩ ⟨[]⟩)
noncomputable def k304d0 : KD := 
(dLook (nat_lit 14) [] [(nat_lit 12)] (lkPick g75 g86 q0) p87 (dEnd [(nat_lit 73), (nat_lit 74), (nat_lit 75), (nat_lit 76), (nat_lit 77), (nat_lit 78), (nat_lit 79), (nat_lit 80), (nat_lit 81), (nat_lit 82), (nat_lit 83), (nat_lit 84), (nat_lit 85), (nat_lit 86), (nat_lit 87)]))
def q347 : OpdF := kC (.func (.func (nat_lit 316)) ⟨[]⟩ ⟨[]⟩)
noncomputable def k304d1 : KD := 
(dIf [(nat_lit 12)] (wantT g75) p86 (dLook (nat_lit 13) [] [(nat_lit 12)] (lkUn .not g85) p86 k304d0) k304d0)
noncomputable def k304d2 : KD := 
(dIf [] (wantT g75) p85 (dTurn (nat_lit 12) [] [] true (xCall q347 [g80, g84]) p85 k304d1) k304d1)
noncomputable def k304d3 : KD := 
(dIf [] (wantT g75) p84 (dLook (nat_lit 11) [] [] (lkLoad1 g83) p84 k304d2) k304d2)
noncomputable def k304d4 : KD := 
(dIf [] (wantT g75) p83 (dLook (nat_lit 10) [] [] (lkIxSl (nat_lit 1) g81 g82) p83 k304d3) k304d3)
noncomputable def k304d5 : KD := 
(dIf [] (wantT g75) p82 (dLook (nat_lit 9) [] [] (lkMove g11) p82 k304d4) k304d4)
noncomputable def k304d6 : KD := 
(dIf [] (wantT g75) p81 (dLook (nat_lit 8) [] [] (lkMove g0) p81 k304d5) k304d5)
noncomputable def k304d7 : KD := 
(dIf [] (wantT g75) p80 (dLook (nat_lit 7) [] [] (lkLoad1 g79) p80 k304d6) k304d6)
noncomputable def k304d8 : KD := 
(dIf [] (wantT g75) p79 (dLook (nat_lit 6) [] [] (lkIxSl (nat_lit 1) g76 g78) p79 k304d7) k304d7)
noncomputable def k304d9 : KD := 
(dIf [] (wantT g75) p78 (dLook (nat_lit 5) [] [] (lkBin .sub g77 q11) p78 k304d8) k304d8)
noncomputable def k304d10 : KD := 
(dIf [] (wantT g75) p77 (dLook (nat_lit 4) [] [] (lkMove g1) p77 k304d9) k304d9)
def q348 : OpdF := kC (.func (.func (nat_lit 317)) ⟨[]⟩ ⟨[]⟩)
def q349 : OpdF := kC (.func (.func (nat_lit 318)) ⟨[]⟩ ⟨[]⟩)
noncomputable def k304 : KFun := ⟨[], (kSeq (oSet (xMove q2) p8 
oEnd) (kSeq (oSet (xMove q2) p9 
oEnd) (kBlock (nat_lit 0) (kLoop (kBlock (nat_lit 1) (kSeq (oSet (xMove g2) p19 
(oSet (xMove g1) p20 
(oSet (xLook (lkBin .sub g19 g20)) p21 
(oSet (xMove g21) p10 
oEnd)))) (kSeq (kSeq (oSet (xMove g10) p22 
(oSet (xLook (lkBin .leq g22 q317)) p23 
oEnd)) (kCond g23 (kSeq (oSet (xMove g0) p24 
(oSet (xMove g1) p25 
(oSet (xMove g2) p26 
(oSet (xCall q341 [g24, g25, g26]) p27 
oEnd)))) kRet) kSkip)) (kSeq (kSeq (oSet (xMove g3) p28 
(oSet (xLook (lkEq false .int g28 q16)) p29 
oEnd)) (kCond g29 (kSeq (oSet (xMove g0) p30 
(oSet (xMove g1) p31 
(oSet (xMove g2) p32 
(oSet (xCall q342 [g30, g31, g32]) p33 
oEnd)))) kRet) kSkip)) (kSeq (kSeq (oSet (xMove g8) p34 
(oSet (xLook (lkUn .not g34)) p35 
oEnd)) (kCond g35 (kSeq (oSet (xMove g0) p36 
(oSet (xMove g1) p37 
(oSet (xMove g2) p38 
(oSet (xCall q343 [g36, g37, g38]) p39 
oEnd)))) (oSet (xMove g3) p40 
(oSet (xLook (lkBin .sub g40 q11)) p41 
(oSet (xMove g41) p3 
oEnd)))) kSkip)) (kSeq (oSet (xMove g0) p43 
(oSet (xMove g1) p44 
(oSet (xMove g2) p45 
(oSet (xCall q344 [g43, g44, g45]) p46 
(oSet (xMove g46) p42 
(oSet (xLook (lkExtract (nat_lit 0) g42)) p47 
(oSet (xLook (lkExtract (nat_lit 1) g42)) p48 
(oSet (xMove g47) p11 
(oSet (xMove g48) p12 
oEnd))))))))) (kSeq (kSeq (oSet (xMove g12) p49 
(oSet (xLook (lkEq false .int g49 q32)) p50 
oEnd)) (kCond g50 (kSeq (oSet (xMove g0) p51 
(oSet (xMove g1) p52 
(oSet (xMove g2) p53 
(oSet (xCall q345 [g51, g52, g53]) p54 
oEnd)))) (kSeq (oSet (xMove g2) p55 
(oSet (xLook (lkBin .sub g55 q11)) p56 
(oSet (xMove g11) p57 
(oSet (xMove g1) p58 
(oSet (xLook (lkBin .sub g57 g58)) p59 
(oSet (xLook (lkBin .sub g56 g59)) p60 
(oSet (xMove g60) p11 
oEnd))))))) (oSet (xMove q11) p12 
oEnd))) kSkip)) (kSeq (kSeq (oSet (xMove g8) p61 
(oSet (xMove g61) p62 
(oSetIf (wantT g62) (xMove g9) p63 
(oSet (xLook (lkPick g62 g63 q0)) p64 
(oSet (xMove g64) p65 
(oSetIf (wantT g65) (xMove g12) p66 
(oSetIf (wantT g65) (xLook (lkEq false .int g66 q11)) p67 
(oSet (xLook (lkPick g65 g67 q0)) p68 
oEnd)))))))) (kCond g68 (kSeq (oSet (xMove g0) p69 
(oSet (xMove g1) p70 
(oSet (xMove g2) p71 
(oSet (xCall q346 [g69, g70, g71]) p72 
oEnd)))) (kCond g72 kRet kSkip)) kSkip)) (kSeq (kSeq (kDraw 
(dLook (nat_lit 0) [] [] (lkMove g1) p73 
(dLook (nat_lit 1) [] [] (lkBin .gtr g73 q16) p74 
(dLook (nat_lit 2) [] [] (lkMove g74) p75 
(dIf [] (wantT g75) p76 (dLook (nat_lit 3) [] [] (lkMove g0) p76 k304d10) k304d10))))) (kCond g87 (kSeq (oSet (xMove g0) p88 
(oSet (xMove g1) p89 
(oSet (xMove g2) p90 
(oSet (xMove g11) p91 
(oSet (xCall q348 [g88, g89, g90, g91]) p92 
(oSet (xMove g92) p13 
oEnd)))))) (kSeq (oSet (xMove g13) p93 
(oSet (xMove g93) p1 
oEnd)) (kExit (nat_lit 1)))) kSkip)) (kSeq (oSet (xMove g0) p95 
(oSet (xMove g1) p96 
(oSet (xMove g2) p97 
(oSet (xMove g11) p98 
(oSet (xCall q349 [g95, g96, g97, g98]) p99 
(oSet (xMove g99) p94 
(oSet (xLook (lkExtract (nat_lit 0) g94)) p100 
(oSet (xLook (lkExtract (nat_lit 1) g94)) p101 
(oSet (xMove g100) p14 
(oSet (xMove g101) p15 
oEnd)))))))))) (kSeq (oSet (xMove g15) p102 
(oSet (xMove g102) p9 
oEnd)) (kSeq (oSet (xMove g14) p103 
(oSet (xMove g1) p104 
(oSet (xLook (lkBin .sub g103 g104)) p105 
(oSet (xMove g2) p106 
(oSet (xMove g14) p107 
(oSet (xLook (lkBin .sub g106 g107)) p108 
(oSet (xMove g105) p16 
(oSet (xMove g108) p17 
oEnd)))))))) (kSeq (oSet (xMove g10) p109 
(oSet (xLook (lkBin .quo g109 q20)) p110 
(oSet (xMove g110) p18 
oEnd))) (kSeq (oSet (xMove g16) p111 
(oSet (xMove g17) p112 
(oSet (xLook (lkBin .lss g111 g112)) p113 
oEnd))) (kCond g113 (kSeq (oSet (xMove g16) p114 
(oSet (xMove g18) p115 
(oSet (xLook (lkBin .geq g114 g115)) p116 
(oSet (xMove g116) p8 
oEnd)))) (kSeq (oSet (xMove g0) p117 
(oSet (xMove g1) p118 
(oSet (xMove g14) p119 
(oSet (xMove g3) p120 
(oSet (xCall q331 [g117, g118, g119, g120]) p121 
oEnd))))) (oSet (xMove g14) p122 
(oSet (xLook (lkBin .add g122 q11)) p123 
(oSet (xMove g123) p1 
oEnd))))) (kSeq (oSet (xMove g17) p124 
(oSet (xMove g18) p125 
(oSet (xLook (lkBin .geq g124 g125)) p126 
(oSet (xMove g126) p8 
oEnd)))) (kSeq (oSet (xMove g0) p127 
(oSet (xMove g14) p128 
(oSet (xLook (lkBin .add g128 q11)) p129 
(oSet (xMove g2) p130 
(oSet (xMove g3) p131 
(oSet (xCall q331 [g127, g129, g130, g131]) p132 
oEnd)))))) (oSet (xMove g14) p133 
(oSet (xMove g133) p2 
oEnd)))))))))))))))))))))))⟩
def q350 : OpdF := kC (.func (.func (nat_lit 326)) ⟨[]⟩ ⟨[]⟩)
noncomputable def k306 : KFun := ⟨[], (kSeq (oSet (xMove g0) p4 
(oSet (xMove g1) p5 
(oSet (xLook (lkSliceSl (nat_lit 2) g4 none (some g5) none)) p6 
(oSet (xCall q350 [g6]) p7 
oEnd)))) (kSeq (oSet (xMove g0) p8 
(oSet (xMove g1) p9 
(oSet (xLook (lkSliceSl (nat_lit 2) g8 (some g9) none none)) p10 
(oSet (xCall q350 [g10]) p11 
oEnd)))) (oSet (xMove g0) p12 
(oSet (xCall q350 [g12]) p13 
oEnd))))⟩
noncomputable def k307d0 : KD := 
(dLook (nat_lit 21) [] [(nat_lit 19)] (lkPick g23 g39 q0) p40 (dEnd [(nat_lit 19), (nat_lit 20), (nat_lit 21), (nat_lit 22), (nat_lit 23), (nat_lit 24), (nat_lit 25), (nat_lit 26), (nat_lit 27), (nat_lit 28), (nat_lit 29), (nat_lit 30), (nat_lit 31), (nat_lit 32), (nat_lit 33), (nat_lit 34), (nat_lit 35), (nat_lit 36), (nat_lit 37), (nat_lit 38), (nat_lit 39), (nat_lit 40)]))
noncomputable def k307d1 : KD := 
(dIf [(nat_lit 19)] (wantT g23) p39 (dLook (nat_lit 20) [] [(nat_lit 19)] (lkBin .lss g38 q16) p39 k307d0) k307d0)
noncomputable def k307d2 : KD := 
(dIf [] (wantT g23) p38 (dTurn (nat_lit 19) [] [] true (xCall g24 [g30, g37]) p38 k307d1) k307d1)
noncomputable def k307d3 : KD := 
(dIf [] (wantT g23) p37 (dLook (nat_lit 18) [] [] (lkLoadN (nat_lit 2) g36) p37 k307d2) k307d2)
noncomputable def k307d4 : KD := 
(dIf [] (wantT g23) p36 (dLook (nat_lit 17) [] [] (lkIxSl (nat_lit 2) g31 g35) p36 k307d3) k307d3)
noncomputable def k307d5 : KD := 
(dIf [] (wantT g23) p35 (dLook (nat_lit 16) [] [] (lkBin .add g34 q11) p35 k307d4) k307d4)
noncomputable def k307d6 : KD := 
(dIf [] (wantT g23) p34 (dLook (nat_lit 15) [] [] (lkBin .add g32 g33) p34 k307d5) k307d5)
noncomputable def k307d7 : KD := 
(dIf [] (wantT g23) p33 (dLook (nat_lit 14) [] [] (lkMove g11) p33 k307d6) k307d6)
noncomputable def k307d8 : KD := 
(dIf [] (wantT g23) p32 (dLook (nat_lit 13) [] [] (lkMove g3) p32 k307d7) k307d7)
noncomputable def k307d9 : KD := 
(dIf [] (wantT g23) p31 (dLook (nat_lit 12) [] [] (lkMove g0) p31 k307d8) k307d8)
noncomputable def k307d10 : KD := 
(dIf [] (wantT g23) p30 (dLook (nat_lit 11) [] [] (lkLoadN (nat_lit 2) g29) p30 k307d9) k307d9)
noncomputable def k307d11 : KD := 
(dIf [] (wantT g23) p29 (dLook (nat_lit 10) [] [] (lkIxSl (nat_lit 2) g25 g28) p29 k307d10) k307d10)
noncomputable def k307d12 : KD := 
(dIf [] (wantT g23) p28 (dLook (nat_lit 9) [] [] (lkBin .add g26 g27) p28 k307d11) k307d11)
noncomputable def k307d13 : KD := 
(dIf [] (wantT g23) p27 (dLook (nat_lit 8) [] [] (lkMove g11) p27 k307d12) k307d12)
noncomputable def k307d14 : KD := 
(dIf [] (wantT g23) p26 (dLook (nat_lit 7) [] [] (lkMove g3) p26 k307d13) k307d13)
noncomputable def k307d15 : KD := 
(dIf [] (wantT g23) p25 (dLook (nat_lit 6) [] [] (lkMove g0) p25 k307d14) k307d14)
noncomputable def k307 : KFun := ⟨[], (kSeq (oSet (xMove g1) p12 
(oSet (xMove g12) p10 
oEnd)) (kBlock (nat_lit 0) (kLoop (kBlock (nat_lit 1) (kSeq (oSet (xMove g10) p13 
(oSet (xLook (lkBin .mul q32 g13)) p14 
(oSet (xLook (lkBin .add g14 q11)) p15 
(oSet (xMove g15) p11 
oEnd)))) (kSeq (kSeq (oSet (xMove g11) p16 
(oSet (xMove g2) p17 
(oSet (xLook (lkBin .geq g16 g17)) p18 
oEnd))) (kCond g18 (kExit (nat_lit 0)) kSkip)) (kSeq (kSeq (kDraw 
(dLook (nat_lit 0) [] [] (lkMove g11) p19 
(dLook (nat_lit 1) [] [] (lkBin .add g19 q11) p20 
(dLook (nat_lit 2) [] [] (lkMove g2) p21 
(dLook (nat_lit 3) [] [] (lkBin .lss g20 g21) p22 
(dLook (nat_lit 4) [] [] (lkMove g22) p23 
(dIf [] (wantT g23) p24 (dLook (nat_lit 5) [] [] (lkMove g4) p24 k307d15) k307d15))))))) (kCond g40 (oSet (xMove g11) p41 
(oSet (xLook (lkBin .add g41 q11)) p42 
(oSet (xMove g42) p11 
oEnd))) kSkip)) (kSeq (kSeq (kDraw 
(dLook (nat_lit 0) [] [] (lkMove g4) p43 
(dLook (nat_lit 1) [] [] (lkMove g0) p44 
(dLook (nat_lit 2) [] [] (lkMove g3) p45 
(dLook (nat_lit 3) [] [] (lkMove g10) p46 
(dLook (nat_lit 4) [] [] (lkBin .add g45 g46) p47 
(dLook (nat_lit 5) [] [] (lkIxSl (nat_lit 2) g44 g47) p48 
(dLook (nat_lit 6) [] [] (lkLoadN (nat_lit 2) g48) p49 
(dLook (nat_lit 7) [] [] (lkMove g0) p50 
(dLook (nat_lit 8) [] [] (lkMove g3) p51 
(dLook (nat_lit 9) [] [] (lkMove g11) p52 
(dLook (nat_lit 10) [] [] (lkBin .add g51 g52) p53 
(dLook (nat_lit 11) [] [] (lkIxSl (nat_lit 2) g50 g53) p54 
(dLook (nat_lit 12) [] [] (lkLoadN (nat_lit 2) g54) p55 
(dTurn (nat_lit 13) [] [] true (xCall g43 [g49, g55]) p56 
(dLook (nat_lit 14) [] [(nat_lit 13)] (lkBin .lss g56 q16) p57 
(dLook (nat_lit 15) [] [(nat_lit 13)] (lkUn .not g57) p58 (dEnd [(nat_lit 43), (nat_lit 44), (nat_lit 45), (nat_lit 46), (nat_lit 47), (nat_lit 48), (nat_lit 49), (nat_lit 50), (nat_lit 51), (nat_lit 52), (nat_lit 53), (nat_lit 54), (nat_lit 55), (nat_lit 56), (nat_lit 57), (nat_lit 58)])))))))))))))))))) (kCond g58 kRet kSkip)) (kSeq (kDraw 
(dLook (nat_lit 0) [] [] (lkMove g0) p59 
(dLook (nat_lit 1) [] [] (lkMove g3) p60 
(dLook (nat_lit 2) [] [] (lkMove g10) p61 
(dLook (nat_lit 3) [] [] (lkBin .add g60 g61) p62 
(dLook (nat_lit 4) [] [] (lkMove g0) p63 
(dLook (nat_lit 5) [] [] (lkMove g3) p64 
(dLook (nat_lit 6) [] [] (lkMove g11) p65 
(dLook (nat_lit 7) [] [] (lkBin .add g64 g65) p66 
(dLook (nat_lit 8) [] [] (lkMove g0) p67 
(dLook (nat_lit 9) [] [] (lkMove g3) p68 
(dLook (nat_lit 10) [] [] (lkMove g11) p69 
(dLook (nat_lit 11) [] [] (lkBin .add g68 g69) p70 
(dLook (nat_lit 12) [] [] (lkIxSl (nat_lit 2) g67 g70) p71 
(dLook (nat_lit 13) [] [] (lkLoadN (nat_lit 2) g71) p72 
(dLook (nat_lit 14) [] [] (lkMove g0) p73 
(dLook (nat_lit 15) [] [] (lkMove g3) p74 
(dLook (nat_lit 16) [] [] (lkMove g10) p75 
(dLook (nat_lit 17) [] [] (lkBin .add g74 g75) p76 
(dLook (nat_lit 18) [] [] (lkIxSl (nat_lit 2) g73 g76) p77 
(dLook (nat_lit 19) [] [] (lkLoadN (nat_lit 2) g77) p78 
(dLook (nat_lit 20) [] [] (lkIxSl (nat_lit 2) g59 g62) p79 
(dTurn (nat_lit 21) [] [] true (xTurn (tnStore (nat_lit 2) g79 g72)) noDst 
(dLook (nat_lit 22) [] [(nat_lit 21)] (lkIxSl (nat_lit 2) g63 g66) p80 
(dTurn (nat_lit 23) [] [(nat_lit 21)] true (xTurn (tnStore (nat_lit 2) g80 g78)) noDst (dEnd [(nat_lit 59), (nat_lit 60), (nat_lit 61), (nat_lit 62), (nat_lit 63), (nat_lit 64), (nat_lit 65), (nat_lit 66), (nat_lit 67), (nat_lit 68), (nat_lit 69), (nat_lit 70), (nat_lit 71), (nat_lit 72), (nat_lit 73), (nat_lit 74), (nat_lit 75), (nat_lit 76), (nat_lit 77), (nat_lit 78), (nat_lit 79), (nat_lit 80)])))))))))))))))))))))))))) (oSet (xMove g11) p81 
(oSet (xMove g81) p10 
oEnd)))))))))))⟩
noncomputable def k308 : KFun := ⟨[rTmp (nat_lit 8) g8], (kSeq (oSet (xMove q16) p8 
oEnd) (kSeq (oSet (xMove g0) p9 
(oSet (xMove g1) p10 
(oSet (xLook (lkBin .sub g10 q11)) p11 
(oSet (xMove g1) p12 
(oSet (xMove g1) p13 
(oSet (xLook (lkBin .add g13 q11)) p14 
(oSet (xMove g2) p15 
(oSet (xMove g3) p16 
(oSet (xCall q338 [g9, g11, g12, g14, g15, g16]) p17 
(oSet (xMove g17) p8 
oEnd)))))))))) kRet))⟩
def q351 : OpdF := kC (.func (.func (nat_lit 327)) ⟨[]⟩ ⟨[]⟩)
noncomputable def k309 : KFun := ⟨[rTmp (nat_lit 12) g12], (kSeq (oSet (xMove q16) p12 
oEnd) (kSeq (oSet (xMove g0) p14 
(oSet (xMove g1) p15 
(oSet (xMove g2) p16 
(oSet (xMove g4) p17 
(oSet (xMove g5) p18 
(oSet (xCall q351 [g14, g15, g16, g17, g18]) p19 
(oSet (xMove g19) p13 
(oSet (xLook (lkExtract (nat_lit 0) g13)) p20 
(oSet (xLook (lkExtract (nat_lit 1) g13)) p21 
(oSet (xMove g20) p1 
(oSet (xMove g21) p2 
oEnd))))))))))) (kSeq (oSet (xMove g0) p23 
(oSet (xMove g2) p24 
(oSet (xMove g3) p25 
(oSet (xMove g4) p26 
(oSet (xMove g5) p27 
(oSet (xCall q351 [g23, g24, g25, g26, g27]) p28 
(oSet (xMove g28) p22 
(oSet (xLook (lkExtract (nat_lit 0) g22)) p29 
(oSet (xLook (lkExtract (nat_lit 1) g22)) p30 
(oSet (xMove g29) p2 
(oSet (xMove g30) p3 
oEnd))))))))))) (kSeq (oSet (xMove g0) p32 
(oSet (xMove g1) p33 
(oSet (xMove g2) p34 
(oSet (xMove g4) p35 
(oSet (xMove g5) p36 
(oSet (xCall q351 [g32, g33, g34, g35, g36]) p37 
(oSet (xMove g37) p31 
(oSet (xLook (lkExtract (nat_lit 0) g31)) p38 
(oSet (xLook (lkExtract (nat_lit 1) g31)) p39 
(oSet (xMove g38) p1 
(oSet (xMove g39) p2 
oEnd))))))))))) (kSeq (oSet (xMove g2) p40 
(oSet (xMove g40) p12 
oEnd)) kRet)))))⟩
noncomputable def k310d0 : KD := 
(dLook (nat_lit 14) [] [(nat_lit 13)] (lkPick g19 g29 q0) p30 (dEnd [(nat_lit 16), (nat_lit 17), (nat_lit 18), (nat_lit 19), (nat_lit 20), (nat_lit 21), (nat_lit 22), (nat_lit 23), (nat_lit 24), (nat_lit 25), (nat_lit 26), (nat_lit 27), (nat_lit 28), (nat_lit 29), (nat_lit 30)]))
noncomputable def k310d1 : KD := 
(dIf [] (wantT g19) p29 (dTurn (nat_lit 13) [] [] true (xCall q347 [g23, g28]) p29 k310d0) k310d0)
noncomputable def k310d2 : KD := 
(dIf [] (wantT g19) p28 (dLook (nat_lit 12) [] [] (lkLoad1 g27) p28 k310d1) k310d1)
noncomputable def k310d3 : KD := 
(dIf [] (wantT g19) p27 (dLook (nat_lit 11) [] [] (lkIxSl (nat_lit 1) g24 g26) p27 k310d2) k310d2)
noncomputable def k310d4 : KD := 
(dIf [] (wantT g19) p26 (dLook (nat_lit 10) [] [] (lkBin .sub g25 q11) p26 k310d3) k310d3)
noncomputable def k310d5 : KD := 
(dIf [] (wantT g19) p25 (dLook (nat_lit 9) [] [] (lkMove g7) p25 k310d4) k310d4)
noncomputable def k310d6 : KD := 
(dIf [] (wantT g19) p24 (dLook (nat_lit 8) [] [] (lkMove g0) p24 k310d5) k310d5)
noncomputable def k310d7 : KD := 
(dIf [] (wantT g19) p23 (dLook (nat_lit 7) [] [] (lkLoad1 g22) p23 k310d6) k310d6)
noncomputable def k310d8 : KD := 
(dIf [] (wantT g19) p22 (dLook (nat_lit 6) [] [] (lkIxSl (nat_lit 1) g20 g21) p22 k310d7) k310d7)
noncomputable def k310d9 : KD := 
(dIf [] (wantT g19) p21 (dLook (nat_lit 5) [] [] (lkMove g7) p21 k310d8) k310d8)
noncomputable def k310 : KFun := ⟨[], (kSeq (oSet (xMove g1) p8 
(oSet (xLook (lkBin .add g8 q11)) p9 
(oSet (xMove g9) p6 
oEnd))) (kBlock (nat_lit 0) (kLoop (kSeq (kSeq (oSet (xMove g6) p10 
(oSet (xMove g2) p11 
(oSet (xLook (lkBin .lss g10 g11)) p12 
oEnd))) (kCond g12 kSkip (kExit (nat_lit 0)))) (kSeq (kBlock (nat_lit 1) (kSeq (oSet (xMove g6) p15 
(oSet (xMove g15) p7 
oEnd)) (kBlock (nat_lit 2) (kLoop (kSeq (kSeq (kDraw 
(dLook (nat_lit 0) [] [] (lkMove g7) p16 
(dLook (nat_lit 1) [] [] (lkMove g1) p17 
(dLook (nat_lit 2) [] [] (lkBin .gtr g16 g17) p18 
(dLook (nat_lit 3) [] [] (lkMove g18) p19 
(dIf [] (wantT g19) p20 (dLook (nat_lit 4) [] [] (lkMove g0) p20 k310d9) k310d9)))))) (kCond g30 kSkip (kExit (nat_lit 2)))) (kSeq (kBlock (nat_lit 3) (kDraw 
(dLook (nat_lit 0) [] [] (lkMove g0) p33 
(dLook (nat_lit 1) [] [] (lkMove g7) p34 
(dLook (nat_lit 2) [] [] (lkMove g0) p35 
(dLook (nat_lit 3) [] [] (lkMove g7) p36 
(dLook (nat_lit 4) [] [] (lkBin .sub g36 q11) p37 
(dLook (nat_lit 5) [] [] (lkMove g0) p38 
(dLook (nat_lit 6) [] [] (lkMove g7) p39 
(dLook (nat_lit 7) [] [] (lkBin .sub g39 q11) p40 
(dLook (nat_lit 8) [] [] (lkIxSl (nat_lit 1) g38 g40) p41 
(dLook (nat_lit 9) [] [] (lkLoad1 g41) p42 
(dLook (nat_lit 10) [] [] (lkMove g0) p43 
(dLook (nat_lit 11) [] [] (lkMove g7) p44 
(dLook (nat_lit 12) [] [] (lkIxSl (nat_lit 1) g43 g44) p45 
(dLook (nat_lit 13) [] [] (lkLoad1 g45) p46 
(dLook (nat_lit 14) [] [] (lkIxSl (nat_lit 1) g33 g34) p47 
(dTurn (nat_lit 15) [] [] true (xTurn (tnStore (nat_lit 1) g47 g42)) noDst 
(dLook (nat_lit 16) [] [(nat_lit 15)] (lkIxSl (nat_lit 1) g35 g37) p48 
(dTurn (nat_lit 17) [] [(nat_lit 15)] true (xTurn (tnStore (nat_lit 1) g48 g46)) noDst (dEnd [(nat_lit 33), (nat_lit 34), (nat_lit 35), (nat_lit 36), (nat_lit 37), (nat_lit 38), (nat_lit 39), (nat_lit 40), (nat_lit 41), (nat_lit 42), (nat_lit 43), (nat_lit 44), (nat_lit 45), (nat_lit 46), (nat_lit 47), (nat_lit 48)]))))))))))))))))))))) (oSet (xMove g7) p31 
(oSet (xLook (lkBin .sub g31 q11)) p32 
(oSet (xMove g32) p7 
oEnd))))))))) (oSet (xMove g6) p13 
(oSet (xLook (lkBin .add g13 q11)) p14 
(oSet (xMove g14) p6 
oEnd))))))))⟩
def q352 : OpdF := kC (.func (.func (nat_lit 328)) ⟨[]⟩ ⟨[]⟩)
noncomputable def k311 : KFun := ⟨[], (kSeq (oSet (xMove g1) p11 
(oSet (xMove g11) p6 
oEnd)) (kSeq (oSet (xMove q16) p7 
oEnd) (kSeq (oSet (xMove g2) p12 
(oSet (xMove g1) p13 
(oSet (xLook (lkBin .sub g12 g13)) p14 
(oSet (xMove g14) p8 
oEnd)))) (kSeq (kSeq (oSet (xMove g8) p15 
(oSet (xLook (lkBin .sub g15 q11)) p16 
(oSet (xLook (lkBin .quo g16 q32)) p17 
(oSet (xMove g17) p9 
oEnd)))) (kBlock (nat_lit 0) (kLoop (kSeq (kSeq (oSet (xMove g9) p18 
(oSet (xLook (lkBin .geq g18 q16)) p19 
oEnd)) (kCond g19 kSkip (kExit (nat_lit 0)))) (kSeq (kBlock (nat_lit 1) (oSet (xMove g0) p22 
(oSet (xMove g9) p23 
(oSet (xMove g8) p24 
(oSet (xMove g6) p25 
(oSet (xCall q352 [g22, g23, g24, g25]) p26 
oEnd)))))) (oSet (xMove g9) p20 
(oSet (xLook (lkBin .sub g20 q11)) p21 
(oSet (xMove g21) p9 
oEnd)))))))) (kSeq (oSet (xMove g8) p27 
(oSet (xLook (lkBin .sub g27 q11)) p28 
(oSet (xMove g28) p10 
oEnd))) (kBlock (nat_lit 2) (kLoop (kSeq (kSeq (oSet (xMove g10) p29 
(oSet (xLook (lkBin .geq g29 q16)) p30 
oEnd)) (kCond g30 kSkip (kExit (nat_lit 2)))) (kSeq (kBlock (nat_lit 3) (kSeq (kDraw 
(dLook (nat_lit 0) [] [] (lkMove g0) p33 
(dLook (nat_lit 1) [] [] (lkMove g6) p34 
(dLook (nat_lit 2) [] [] (lkMove g0) p35 
(dLook (nat_lit 3) [] [] (lkMove g6) p36 
(dLook (nat_lit 4) [] [] (lkMove g10) p37 
(dLook (nat_lit 5) [] [] (lkBin .add g36 g37) p38 
(dLook (nat_lit 6) [] [] (lkMove g0) p39 
(dLook (nat_lit 7) [] [] (lkMove g6) p40 
(dLook (nat_lit 8) [] [] (lkMove g10) p41 
(dLook (nat_lit 9) [] [] (lkBin .add g40 g41) p42 
(dLook (nat_lit 10) [] [] (lkIxSl (nat_lit 1) g39 g42) p43 
(dLook (nat_lit 11) [] [] (lkLoad1 g43) p44 
(dLook (nat_lit 12) [] [] (lkMove g0) p45 
(dLook (nat_lit 13) [] [] (lkMove g6) p46 
(dLook (nat_lit 14) [] [] (lkIxSl (nat_lit 1) g45 g46) p47 
(dLook (nat_lit 15) [] [] (lkLoad1 g47) p48 
(dLook (nat_lit 16) [] [] (lkIxSl (nat_lit 1) g33 g34) p49 
(dTurn (nat_lit 17) [] [] true (xTurn (tnStore (nat_lit 1) g49 g44)) noDst 
(dLook (nat_lit 18) [] [(nat_lit 17)] (lkIxSl (nat_lit 1) g35 g38) p50 
(dTurn (nat_lit 19) [] [(nat_lit 17)] true (xTurn (tnStore (nat_lit 1) g50 g48)) noDst (dEnd [(nat_lit 33), (nat_lit 34), (nat_lit 35), (nat_lit 36), (nat_lit 37), (nat_lit 38), (nat_lit 39), (nat_lit 40), (nat_lit 41), (nat_lit 42), (nat_lit 43), (nat_lit 44), (nat_lit 45), (nat_lit 46), (nat_lit 47), (nat_lit 48), (nat_lit 49), (nat_lit 50)])))))))))))))))))))))) (oSet (xMove g0) p51 
(oSet (xMove g7) p52 
(oSet (xMove g10) p53 
(oSet (xMove g6) p54 
(oSet (xCall q352 [g51, g52, g53, g54]) p55 
oEnd))))))) (oSet (xMove g10) p31 
(oSet (xLook (lkBin .sub g31 q11)) p32 
(oSet (xMove g32) p10 
oEnd))))))))))))⟩
noncomputable def k312 : KFun := ⟨[], (kSeq (oSet (xMove g2) p11 
(oSet (xMove g1) p12 
(oSet (xLook (lkBin .sub g11 g12)) p13 
(oSet (xMove g13) p6 
oEnd)))) (kSeq (oSet (xMove g6) p14 
(oSet (xLook (lkBin .geq g14 q20)) p15 
oEnd)) (kCond g15 (kSeq (oSet (xMove g6) p16 
(oSet (xLook (lkIntTo .u64 g16)) p17 
(oSet (xTurn (tnAlloc q334)) p7 
(oDo (xTurn (tnStore (nat_lit 1) g7 g17)) 
oEnd)))) (kSeq (oSet (xMove g6) p18 
(oSet (xCall q335 [g18]) p19 
(oSet (xMove g19) p8 
oEnd))) (kSeq (oSet (xMove g1) p20 
(oSet (xMove g6) p21 
(oSet (xLook (lkBin .quo g21 q19)) p22 
(oSet (xLook (lkBin .mul g22 q32)) p23 
(oSet (xLook (lkBin .add g20 g23)) p24 
(oSet (xLook (lkBin .sub g24 q11)) p25 
(oSet (xMove g25) p9 
oEnd))))))) (kBlock (nat_lit 0) (kLoop (kSeq (kSeq (oSet (xMove g9) p26 
(oSet (xMove g1) p27 
(oSet (xMove g6) p28 
(oSet (xLook (lkBin .quo g28 q19)) p29 
(oSet (xLook (lkBin .mul g29 q32)) p30 
(oSet (xLook (lkBin .add g27 g30)) p31 
(oSet (xLook (lkBin .add g31 q11)) p32 
(oSet (xLook (lkBin .leq g26 g32)) p33 
oEnd)))))))) (kCond g33 kSkip (kExit (nat_lit 0)))) (kSeq (kBlock (nat_lit 1) (kSeq (oSet (xCall q336 [g7]) p36 
(oSet (xMove g8) p37 
(oSet (xLook (lkBin .sub g37 q308)) p38 
(oSet (xLook (lkBin .and g36 g38)) p39 
(oSet (xLook (lkIntTo .i64 g39)) p40 
(oSet (xMove g40) p10 
oEnd)))))) (kSeq (kSeq (oSet (xMove g10) p41 
(oSet (xMove g6) p42 
(oSet (xLook (lkBin .geq g41 g42)) p43 
oEnd))) (kCond g43 (oSet (xMove g10) p44 
(oSet (xMove g6) p45 
(oSet (xLook (lkBin .sub g44 g45)) p46 
(oSet (xMove g46) p10 
oEnd)))) kSkip)) (kDraw 
(dLook (nat_lit 0) [] [] (lkMove g0) p47 
(dLook (nat_lit 1) [] [] (lkMove g9) p48 
(dLook (nat_lit 2) [] [] (lkMove g0) p49 
(dLook (nat_lit 3) [] [] (lkMove g1) p50 
(dLook (nat_lit 4) [] [] (lkMove g10) p51 
(dLook (nat_lit 5) [] [] (lkBin .add g50 g51) p52 
(dLook (nat_lit 6) [] [] (lkMove g0) p53 
(dLook (nat_lit 7) [] [] (lkMove g1) p54 
(dLook (nat_lit 8) [] [] (lkMove g10) p55 
(dLook (nat_lit 9) [] [] (lkBin .add g54 g55) p56 
(dLook (nat_lit 10) [] [] (lkIxSl (nat_lit 1) g53 g56) p57 
(dLook (nat_lit 11) [] [] (lkLoad1 g57) p58 
(dLook (nat_lit 12) [] [] (lkMove g0) p59 
(dLook (nat_lit 13) [] [] (lkMove g9) p60 
(dLook (nat_lit 14) [] [] (lkIxSl (nat_lit 1) g59 g60) p61 
(dLook (nat_lit 15) [] [] (lkLoad1 g61) p62 
(dLook (nat_lit 16) [] [] (lkIxSl (nat_lit 1) g47 g48) p63 
(dTurn (nat_lit 17) [] [] true (xTurn (tnStore (nat_lit 1) g63 g58)) noDst 
(dLook (nat_lit 18) [] [(nat_lit 17)] (lkIxSl (nat_lit 1) g49 g52) p64 
(dTurn (nat_lit 19) [] [(nat_lit 17)] true (xTurn (tnStore (nat_lit 1) g64 g62)) noDst (dEnd [(nat_lit 47), (nat_lit 48), (nat_lit 49), (nat_lit 50), (nat_lit 51), (nat_lit 52), (nat_lit 53), (nat_lit 54), (nat_lit 55), (nat_lit 56), (nat_lit 57), (nat_lit 58), (nat_lit 59), (nat_lit 60), (nat_lit 61), (nat_lit 62), (nat_lit 63), (nat_lit 64)]))))))))))))))))))))))))) (oSet (xMove g9) p34 
(oSet (xLook (lkBin .add g34 q11)) p35 
(oSet (xMove g35) p9 
oEnd)))))))))) kSkip)))⟩
def q353 : OpdF := kC (.func (.func (nat_lit 329)) ⟨[]⟩ ⟨[]⟩)
def q354 : OpdF := kC (.func (.func (nat_lit 330)) ⟨[]⟩ ⟨[]⟩)
noncomputable def k313 : KFun := ⟨[rTmp (nat_lit 6) g6, rTmp (nat_lit 7) g7], (kSeq (oSet (xMove q16) p6 
(oSet (xMove q16) p7 
oEnd)) (kSeq (oSet (xMove g2) p13 
(oSet (xMove g1) p14 
(oSet (xLook (lkBin .sub g13 g14)) p15 
(oSet (xMove g15) p8 
oEnd)))) (kSeq (oSet (xTurn (tnAlloc q123)) p9 
oEnd) (kSeq (oSet (xMove g1) p16 
(oSet (xMove g8) p17 
(oSet (xLook (lkBin .quo g17 q19)) p18 
(oSet (xLook (lkBin .mul g18 q11)) p19 
(oSet (xLook (lkBin .add g16 g19)) p20 
(oSet (xMove g20) p10 
oEnd)))))) (kSeq (oSet (xMove g1) p21 
(oSet (xMove g8) p22 
(oSet (xLook (lkBin .quo g22 q19)) p23 
(oSet (xLook (lkBin .mul g23 q32)) p24 
(oSet (xLook (lkBin .add g21 g24)) p25 
(oSet (xMove g25) p11 
oEnd)))))) (kSeq (oSet (xMove g1) p26 
(oSet (xMove g8) p27 
(oSet (xLook (lkBin .quo g27 q19)) p28 
(oSet (xLook (lkBin .mul g28 q40)) p29 
(oSet (xLook (lkBin .add g26 g29)) p30 
(oSet (xMove g30) p12 
oEnd)))))) (kSeq (kSeq (oSet (xMove g8) p31 
(oSet (xLook (lkBin .geq g31 q20)) p32 
oEnd)) (kCond g32 (kSeq (kSeq (oSet (xMove g8) p33 
(oSet (xLook (lkBin .geq g33 q279)) p34 
oEnd)) (kCond g34 (kSeq (oSet (xMove g0) p35 
(oSet (xMove g10) p36 
(oSet (xCall q353 [g35, g36, g9]) p37 
(oSet (xMove g37) p10 
oEnd)))) (kSeq (oSet (xMove g0) p38 
(oSet (xMove g11) p39 
(oSet (xCall q353 [g38, g39, g9]) p40 
(oSet (xMove g40) p11 
oEnd)))) (oSet (xMove g0) p41 
(oSet (xMove g12) p42 
(oSet (xCall q353 [g41, g42, g9]) p43 
(oSet (xMove g43) p12 
oEnd)))))) kSkip)) (oSet (xMove g0) p44 
(oSet (xMove g10) p45 
(oSet (xMove g11) p46 
(oSet (xMove g12) p47 
(oSet (xCall q354 [g44, g45, g46, g47, g9]) p48 
(oSet (xMove g48) p11 
oEnd))))))) kSkip)) (kSeq (oSet (xLook (lkLoad1 g9)) p49 
oEnd) (kBlock (nat_lit 0) (kSeq (oSet (xLook (lkEq false .int g49 q16)) p52 
(oSet (xMove g52) p51 
oEnd)) (kCond g51 (kSeq (oSet (xMove g11) p53 
(oSet (xMove g53) p6 
(oSet (xMove q11) p7 
oEnd))) kRet) (kSeq (oSet (xLook (lkEq false .int g49 q317)) p55 
(oSet (xMove g55) p54 
oEnd)) (kCond g54 (kSeq (oSet (xMove g11) p56 
(oSet (xMove g56) p6 
(oSet (xMove q32) p7 
oEnd))) kRet) (kSeq (oSet (xMove g11) p50 
(oSet (xMove g50) p6 
(oSet (xMove q16) p7 
oEnd))) kRet))))))))))))))⟩
noncomputable def k314 : KFun := ⟨[], (kSeq (oSet (xMove g1) p8 
(oSet (xMove g8) p6 
oEnd)) (kSeq (oSet (xMove g2) p9 
(oSet (xLook (lkBin .sub g9 q11)) p10 
(oSet (xMove g10) p7 
oEnd))) (kBlock (nat_lit 0) (kLoop (kSeq (kSeq (oSet (xMove g6) p11 
(oSet (xMove g7) p12 
(oSet (xLook (lkBin .lss g11 g12)) p13 
oEnd))) (kCond g13 kSkip (kExit (nat_lit 0)))) (kBlock (nat_lit 1) (kSeq (kDraw 
(dLook (nat_lit 0) [] [] (lkMove g0) p14 
(dLook (nat_lit 1) [] [] (lkMove g6) p15 
(dLook (nat_lit 2) [] [] (lkMove g0) p16 
(dLook (nat_lit 3) [] [] (lkMove g7) p17 
(dLook (nat_lit 4) [] [] (lkMove g0) p18 
(dLook (nat_lit 5) [] [] (lkMove g7) p19 
(dLook (nat_lit 6) [] [] (lkIxSl (nat_lit 1) g18 g19) p20 
(dLook (nat_lit 7) [] [] (lkLoad1 g20) p21 
(dLook (nat_lit 8) [] [] (lkMove g0) p22 
(dLook (nat_lit 9) [] [] (lkMove g6) p23 
(dLook (nat_lit 10) [] [] (lkIxSl (nat_lit 1) g22 g23) p24 
(dLook (nat_lit 11) [] [] (lkLoad1 g24) p25 
(dLook (nat_lit 12) [] [] (lkIxSl (nat_lit 1) g14 g15) p26 
(dTurn (nat_lit 13) [] [] true (xTurn (tnStore (nat_lit 1) g26 g21)) noDst 
(dLook (nat_lit 14) [] [(nat_lit 13)] (lkIxSl (nat_lit 1) g16 g17) p27 
(dTurn (nat_lit 15) [] [(nat_lit 13)] true (xTurn (tnStore (nat_lit 1) g27 g25)) noDst (dEnd [(nat_lit 14), (nat_lit 15), (nat_lit 16), (nat_lit 17), (nat_lit 18), (nat_lit 19), (nat_lit 20), (nat_lit 21), (nat_lit 22), (nat_lit 23), (nat_lit 24), (nat_lit 25), (nat_lit 26), (nat_lit 27)])))))))))))))))))) (kSeq (oSet (xMove g6) p28 
(oSet (xLook (lkBin .add g28 q11)) p29 
(oSet (xMove g29) p6 
oEnd))) (oSet (xMove g7) p30 
(oSet (xLook (lkBin .sub g30 q11)) p31 
(oSet (xMove g31) p7 
oEnd)))))))))))⟩
noncomputable def k315d0 : KD := 
(dLook (nat_lit 15) [] [(nat_lit 13)] (lkPick g20 g31 q0) p32 (dEnd [(nat_lit 17), (nat_lit 18), (nat_lit 19), (nat_lit 20), (nat_lit 21), (nat_lit 22), (nat_lit 23), (nat_lit 24), (nat_lit 25), (nat_lit 26), (nat_lit 27), (nat_lit 28), (nat_lit 29), (nat_lit 30), (nat_lit 31), (nat_lit 32)]))
noncomputable def k315d1 : KD := 
(dIf [(nat_lit 13)] (wantT g20) p31 (dLook (nat_lit 14) [] [(nat_lit 13)] (lkUn .not g30) p31 k315d0) k315d0)
noncomputable def k315d2 : KD := 
(dIf [] (wantT g20) p30 (dTurn (nat_lit 13) [] [] true (xCall q347 [g24, g29]) p30 k315d1) k315d1)
noncomputable def k315d3 : KD := 
(dIf [] (wantT g20) p29 (dLook (nat_lit 12) [] [] (lkLoad1 g28) p29 k315d2) k315d2)
noncomputable def k315d4 : KD := 
(dIf [] (wantT g20) p28 (dLook (nat_lit 11) [] [] (lkIxSl (nat_lit 1) g25 g27) p28 k315d3) k315d3)
noncomputable def k315d5 : KD := 
(dIf [] (wantT g20) p27 (dLook (nat_lit 10) [] [] (lkBin .sub g26 q11) p27 k315d4) k315d4)
noncomputable def k315d6 : KD := 
(dIf [] (wantT g20) p26 (dLook (nat_lit 9) [] [] (lkMove g7) p26 k315d5) k315d5)
noncomputable def k315d7 : KD := 
(dIf [] (wantT g20) p25 (dLook (nat_lit 8) [] [] (lkMove g0) p25 k315d6) k315d6)
noncomputable def k315d8 : KD := 
(dIf [] (wantT g20) p24 (dLook (nat_lit 7) [] [] (lkLoad1 g23) p24 k315d7) k315d7)
noncomputable def k315d9 : KD := 
(dIf [] (wantT g20) p23 (dLook (nat_lit 6) [] [] (lkIxSl (nat_lit 1) g21 g22) p23 k315d8) k315d8)
noncomputable def k315d10 : KD := 
(dIf [] (wantT g20) p22 (dLook (nat_lit 5) [] [] (lkMove g7) p22 k315d9) k315d9)
noncomputable def k315 : KFun := ⟨[rTmp (nat_lit 6) g6], (kSeq (oSet (xMove q0) p6 
oEnd) (kSeq (oSet (xMove g1) p11 
(oSet (xLook (lkBin .add g11 q11)) p12 
(oSet (xMove g12) p7 
oEnd))) (kSeq (kSeq (oSet (xMove q16) p8 
oEnd) (kBlock (nat_lit 0) (kLoop (kSeq (kSeq (oSet (xMove g8) p13 
(oSet (xLook (lkBin .lss g13 q76)) p14 
oEnd)) (kCond g14 kSkip (kExit (nat_lit 0)))) (kSeq (kBlock (nat_lit 1) (kSeq (kBlock (nat_lit 2) (kLoop (kSeq (kSeq (kDraw 
(dLook (nat_lit 0) [] [] (lkMove g7) p17 
(dLook (nat_lit 1) [] [] (lkMove g2) p18 
(dLook (nat_lit 2) [] [] (lkBin .lss g17 g18) p19 
(dLook (nat_lit 3) [] [] (lkMove g19) p20 
(dIf [] (wantT g20) p21 (dLook (nat_lit 4) [] [] (lkMove g0) p21 k315d10) k315d10)))))) (kCond g32 kSkip (kExit (nat_lit 2)))) (kBlock (nat_lit 3) (oSet (xMove g7) p33 
(oSet (xLook (lkBin .add g33 q11)) p34 
(oSet (xMove g34) p7 
oEnd))))))) (kSeq (kSeq (oSet (xMove g7) p35 
(oSet (xMove g2) p36 
(oSet (xLook (lkEq false .int g35 g36)) p37 
oEnd))) (kCond g37 (kSeq (oSet (xMove q2) p6 
oEnd) kRet) kSkip)) (kSeq (kSeq (oSet (xMove g2) p38 
(oSet (xMove g1) p39 
(oSet (xLook (lkBin .sub g38 g39)) p40 
(oSet (xLook (lkBin .lss g40 q279)) p41 
oEnd)))) (kCond g41 (kSeq (oSet (xMove q0) p6 
oEnd) kRet) kSkip)) (kSeq (kDraw 
(dLook (nat_lit 0) [] [] (lkMove g0) p42 
(dLook (nat_lit 1) [] [] (lkMove g7) p43 
(dLook (nat_lit 2) [] [] (lkMove g0) p44 
(dLook (nat_lit 3) [] [] (lkMove g7) p45 
(dLook (nat_lit 4) [] [] (lkBin .sub g45 q11) p46 
(dLook (nat_lit 5) [] [] (lkMove g0) p47 
(dLook (nat_lit 6) [] [] (lkMove g7) p48 
(dLook (nat_lit 7) [] [] (lkBin .sub g48 q11) p49 
(dLook (nat_lit 8) [] [] (lkIxSl (nat_lit 1) g47 g49) p50 
(dLook (nat_lit 9) [] [] (lkLoad1 g50) p51 
(dLook (nat_lit 10) [] [] (lkMove g0) p52 
(dLook (nat_lit 11) [] [] (lkMove g7) p53 
(dLook (nat_lit 12) [] [] (lkIxSl (nat_lit 1) g52 g53) p54 
(dLook (nat_lit 13) [] [] (lkLoad1 g54) p55 
(dLook (nat_lit 14) [] [] (lkIxSl (nat_lit 1) g42 g43) p56 
(dTurn (nat_lit 15) [] [] true (xTurn (tnStore (nat_lit 1) g56 g51)) noDst 
(dLook (nat_lit 16) [] [(nat_lit 15)] (lkIxSl (nat_lit 1) g44 g46) p57 
(dTurn (nat_lit 17) [] [(nat_lit 15)] true (xTurn (tnStore (nat_lit 1) g57 g55)) noDst (dEnd [(nat_lit 42), (nat_lit 43), (nat_lit 44), (nat_lit 45), (nat_lit 46), (nat_lit 47), (nat_lit 48), (nat_lit 49), (nat_lit 50), (nat_lit 51), (nat_lit 52), (nat_lit 53), (nat_lit 54), (nat_lit 55), (nat_lit 56), (nat_lit 57)])))))))))))))))))))) (kSeq (kSeq (oSet (xMove g7) p58 
(oSet (xMove g1) p59 
(oSet (xLook (lkBin .sub g58 g59)) p60 
(oSet (xLook (lkBin .geq g60 q32)) p61 
oEnd)))) (kCond g61 (kSeq (oSet (xMove g7) p62 
(oSet (xLook (lkBin .sub g62 q11)) p63 
(oSet (xMove g63) p9 
oEnd))) (kBlock (nat_lit 4) (kLoop (kSeq (kSeq (oSet (xMove g9) p64 
(oSet (xLook (lkBin .geq g64 q11)) p65 
oEnd)) (kCond g65 kSkip (kExit (nat_lit 4)))) (kSeq (kBlock (nat_lit 5) (kSeq (kSeq (kDraw 
(dLook (nat_lit 0) [] [] (lkMove g0) p68 
(dLook (nat_lit 1) [] [] (lkMove g9) p69 
(dLook (nat_lit 2) [] [] (lkIxSl (nat_lit 1) g68 g69) p70 
(dLook (nat_lit 3) [] [] (lkLoad1 g70) p71 
(dLook (nat_lit 4) [] [] (lkMove g0) p72 
(dLook (nat_lit 5) [] [] (lkMove g9) p73 
(dLook (nat_lit 6) [] [] (lkBin .sub g73 q11) p74 
(dLook (nat_lit 7) [] [] (lkIxSl (nat_lit 1) g72 g74) p75 
(dLook (nat_lit 8) [] [] (lkLoad1 g75) p76 
(dTurn (nat_lit 9) [] [] true (xCall q347 [g71, g76]) p77 
(dLook (nat_lit 10) [] [(nat_lit 9)] (lkUn .not g77) p78 (dEnd [(nat_lit 68), (nat_lit 69), (nat_lit 70), (nat_lit 71), (nat_lit 72), (nat_lit 73), (nat_lit 74), (nat_lit 75), (nat_lit 76), (nat_lit 77), (nat_lit 78)]))))))))))))) (kCond g78 (kExit (nat_lit 4)) kSkip)) (kDraw 
(dLook (nat_lit 0) [] [] (lkMove g0) p79 
(dLook (nat_lit 1) [] [] (lkMove g9) p80 
(dLook (nat_lit 2) [] [] (lkMove g0) p81 
(dLook (nat_lit 3) [] [] (lkMove g9) p82 
(dLook (nat_lit 4) [] [] (lkBin .sub g82 q11) p83 
(dLook (nat_lit 5) [] [] (lkMove g0) p84 
(dLook (nat_lit 6) [] [] (lkMove g9) p85 
(dLook (nat_lit 7) [] [] (lkBin .sub g85 q11) p86 
(dLook (nat_lit 8) [] [] (lkIxSl (nat_lit 1) g84 g86) p87 
(dLook (nat_lit 9) [] [] (lkLoad1 g87) p88 
(dLook (nat_lit 10) [] [] (lkMove g0) p89 
(dLook (nat_lit 11) [] [] (lkMove g9) p90 
(dLook (nat_lit 12) [] [] (lkIxSl (nat_lit 1) g89 g90) p91 
(dLook (nat_lit 13) [] [] (lkLoad1 g91) p92 
(dLook (nat_lit 14) [] [] (lkIxSl (nat_lit 1) g79 g80) p93 
(dTurn (nat_lit 15) [] [] true (xTurn (tnStore (nat_lit 1) g93 g88)) noDst 
(dLook (nat_lit 16) [] [(nat_lit 15)] (lkIxSl (nat_lit 1) g81 g83) p94 
(dTurn (nat_lit 17) [] [(nat_lit 15)] true (xTurn (tnStore (nat_lit 1) g94 g92)) noDst (dEnd [(nat_lit 79), (nat_lit 80), (nat_lit 81), (nat_lit 82), (nat_lit 83), (nat_lit 84), (nat_lit 85), (nat_lit 86), (nat_lit 87), (nat_lit 88), (nat_lit 89), (nat_lit 90), (nat_lit 91), (nat_lit 92), (nat_lit 93), (nat_lit 94)])))))))))))))))))))))) (oSet (xMove g9) p66 
(oSet (xLook (lkBin .sub g66 q11)) p67 
(oSet (xMove g67) p9 
oEnd)))))))) kSkip)) (kSeq (oSet (xMove g2) p95 
(oSet (xMove g7) p96 
(oSet (xLook (lkBin .sub g95 g96)) p97 
(oSet (xLook (lkBin .geq g97 q32)) p98 
oEnd)))) (kCond g98 (kSeq (oSet (xMove g7) p99 
(oSet (xLook (lkBin .add g99 q11)) p100 
(oSet (xMove g100) p10 
oEnd))) (kBlock (nat_lit 6) (kLoop (kSeq (kSeq (oSet (xMove g10) p101 
(oSet (xMove g2) p102 
(oSet (xLook (lkBin .lss g101 g102)) p103 
oEnd))) (kCond g103 kSkip (kExit (nat_lit 6)))) (kSeq (kBlock (nat_lit 7) (kSeq (kSeq (kDraw 
(dLook (nat_lit 0) [] [] (lkMove g0) p106 
(dLook (nat_lit 1) [] [] (lkMove g10) p107 
(dLook (nat_lit 2) [] [] (lkIxSl (nat_lit 1) g106 g107) p108 
(dLook (nat_lit 3) [] [] (lkLoad1 g108) p109 
(dLook (nat_lit 4) [] [] (lkMove g0) p110 
(dLook (nat_lit 5) [] [] (lkMove g10) p111 
(dLook (nat_lit 6) [] [] (lkBin .sub g111 q11) p112 
(dLook (nat_lit 7) [] [] (lkIxSl (nat_lit 1) g110 g112) p113 
(dLook (nat_lit 8) [] [] (lkLoad1 g113) p114 
(dTurn (nat_lit 9) [] [] true (xCall q347 [g109, g114]) p115 
(dLook (nat_lit 10) [] [(nat_lit 9)] (lkUn .not g115) p116 (dEnd [(nat_lit 106), (nat_lit 107), (nat_lit 108), (nat_lit 109), (nat_lit 110), (nat_lit 111), (nat_lit 112), (nat_lit 113), (nat_lit 114), (nat_lit 115), (nat_lit 116)]))))))))))))) (kCond g116 (kExit (nat_lit 6)) kSkip)) (kDraw 
(dLook (nat_lit 0) [] [] (lkMove g0) p117 
(dLook (nat_lit 1) [] [] (lkMove g10) p118 
(dLook (nat_lit 2) [] [] (lkMove g0) p119 
(dLook (nat_lit 3) [] [] (lkMove g10) p120 
(dLook (nat_lit 4) [] [] (lkBin .sub g120 q11) p121 
(dLook (nat_lit 5) [] [] (lkMove g0) p122 
(dLook (nat_lit 6) [] [] (lkMove g10) p123 
(dLook (nat_lit 7) [] [] (lkBin .sub g123 q11) p124 
(dLook (nat_lit 8) [] [] (lkIxSl (nat_lit 1) g122 g124) p125 
(dLook (nat_lit 9) [] [] (lkLoad1 g125) p126 
(dLook (nat_lit 10) [] [] (lkMove g0) p127 
(dLook (nat_lit 11) [] [] (lkMove g10) p128 
(dLook (nat_lit 12) [] [] (lkIxSl (nat_lit 1) g127 g128) p129 
(dLook (nat_lit 13) [] [] (lkLoad1 g129) p130 
(dLook (nat_lit 14) [] [] (lkIxSl (nat_lit 1) g117 g118) p131 
(dTurn (nat_lit 15) [] [] true (xTurn (tnStore (nat_lit 1) g131 g126)) noDst 
(dLook (nat_lit 16) [] [(nat_lit 15)] (lkIxSl (nat_lit 1) g119 g121) p132 
(dTurn (nat_lit 17) [] [(nat_lit 15)] true (xTurn (tnStore (nat_lit 1) g132 g130)) noDst (dEnd [(nat_lit 117), (nat_lit 118), (nat_lit 119), (nat_lit 120), (nat_lit 121), (nat_lit 122), (nat_lit 123), (nat_lit 124), (nat_lit 125), (nat_lit 126), (nat_lit 127), (nat_lit 128), (nat_lit 129), (nat_lit 130), (nat_lit 131), (nat_lit 132)])))))))))))))))))))))) (oSet (xMove g10) p104 
(oSet (xLook (lkBin .add g104 q11)) p105 
(oSet (xMove g105) p10 
oEnd)))))))) kSkip)))))))) (oSet (xMove g8) p15 
(oSet (xLook (lkBin .add g15 q11)) p16 
(oSet (xMove g16) p8 
oEnd)))))))) (kSeq (oSet (xMove q0) p6 
oEnd) kRet))))⟩
def q355 : OpdF := kC (.func (.func (nat_lit 331)) ⟨[]⟩ ⟨[]⟩)
noncomputable def k316 : KFun := ⟨[rTmp (nat_lit 4) g4], (kSeq (oSet (xMove q0) p4 
oEnd) (kSeq (oSet (xMove g0) p5 
(oSet (xCall q355 [g5]) p6 
(oSet (xMove g6) p7 
(oSetIf (wantT g7) (xMove g1) p8 
(oSetIf (wantT g7) (xCall q355 [g8]) p9 
(oSetIf (wantT g7) (xLook (lkUn .not g9)) p10 
(oSet (xLook (lkPick g7 g10 q0)) p11 
(oSet (xMove g11) p12 
(oSetIf (wantF g12) (xMove g0) p13 
(oSetIf (wantF g12) (xMove g1) p14 
(oSetIf (wantF g12) (xLook (lkBin .lss g13 g14)) p15 
(oSet (xLook (lkPick g12 q2 g15)) p16 
(oSet (xMove g16) p4 
oEnd))))))))))))) kRet))⟩
noncomputable def k317d0 : KD := 
(dLook (nat_lit 14) [] [(nat_lit 12)] (lkPick g32 g42 q0) p43 (dEnd [(nat_lit 29), (nat_lit 30), (nat_lit 31), (nat_lit 32), (nat_lit 33), (nat_lit 34), (nat_lit 35), (nat_lit 36), (nat_lit 37), (nat_lit 38), (nat_lit 39), (nat_lit 40), (nat_lit 41), (nat_lit 42), (nat_lit 43)]))
noncomputable def k317d1 : KD := 
(dIf [(nat_lit 12)] (wantT g32) p42 (dLook (nat_lit 13) [] [(nat_lit 12)] (lkUn .not g41) p42 k317d0) k317d0)
noncomputable def k317d2 : KD := 
(dIf [] (wantT g32) p41 (dTurn (nat_lit 12) [] [] true (xCall q347 [g36, g40]) p41 k317d1) k317d1)
noncomputable def k317d3 : KD := 
(dIf [] (wantT g32) p40 (dLook (nat_lit 11) [] [] (lkLoad1 g39) p40 k317d2) k317d2)
noncomputable def k317d4 : KD := 
(dIf [] (wantT g32) p39 (dLook (nat_lit 10) [] [] (lkIxSl (nat_lit 1) g37 g38) p39 k317d3) k317d3)
noncomputable def k317d5 : KD := 
(dIf [] (wantT g32) p38 (dLook (nat_lit 9) [] [] (lkMove g9) p38 k317d4) k317d4)
noncomputable def k317d6 : KD := 
(dIf [] (wantT g32) p37 (dLook (nat_lit 8) [] [] (lkMove g0) p37 k317d5) k317d5)
noncomputable def k317d7 : KD := 
(dIf [] (wantT g32) p36 (dLook (nat_lit 7) [] [] (lkLoad1 g35) p36 k317d6) k317d6)
noncomputable def k317d8 : KD := 
(dIf [] (wantT g32) p35 (dLook (nat_lit 6) [] [] (lkIxSl (nat_lit 1) g33 g34) p35 k317d7) k317d7)
noncomputable def k317d9 : KD := 
(dIf [] (wantT g32) p34 (dLook (nat_lit 5) [] [] (lkMove g1) p34 k317d8) k317d8)
noncomputable def k317d10 : KD := 
(dLook (nat_lit 13) [] [(nat_lit 12)] (lkPick g49 g58 q0) p59 (dEnd [(nat_lit 46), (nat_lit 47), (nat_lit 48), (nat_lit 49), (nat_lit 50), (nat_lit 51), (nat_lit 52), (nat_lit 53), (nat_lit 54), (nat_lit 55), (nat_lit 56), (nat_lit 57), (nat_lit 58), (nat_lit 59)]))
noncomputable def k317d11 : KD := 
(dIf [] (wantT g49) p58 (dTurn (nat_lit 12) [] [] true (xCall q347 [g53, g57]) p58 k317d10) k317d10)
noncomputable def k317d12 : KD := 
(dIf [] (wantT g49) p57 (dLook (nat_lit 11) [] [] (lkLoad1 g56) p57 k317d11) k317d11)
noncomputable def k317d13 : KD := 
(dIf [] (wantT g49) p56 (dLook (nat_lit 10) [] [] (lkIxSl (nat_lit 1) g54 g55) p56 k317d12) k317d12)
noncomputable def k317d14 : KD := 
(dIf [] (wantT g49) p55 (dLook (nat_lit 9) [] [] (lkMove g10) p55 k317d13) k317d13)
noncomputable def k317d15 : KD := 
(dIf [] (wantT g49) p54 (dLook (nat_lit 8) [] [] (lkMove g0) p54 k317d14) k317d14)
noncomputable def k317d16 : KD := 
(dIf [] (wantT g49) p53 (dLook (nat_lit 7) [] [] (lkLoad1 g52) p53 k317d15) k317d15)
noncomputable def k317d17 : KD := 
(dIf [] (wantT g49) p52 (dLook (nat_lit 6) [] [] (lkIxSl (nat_lit 1) g50 g51) p52 k317d16) k317d16)
noncomputable def k317d18 : KD := 
(dIf [] (wantT g49) p51 (dLook (nat_lit 5) [] [] (lkMove g1) p51 k317d17) k317d17)
noncomputable def k317 : KFun := ⟨[rTmp (nat_lit 8) g8], (kSeq (oSet (xMove q16) p8 
oEnd) (kSeq (kDraw 
(dLook (nat_lit 0) [] [] (lkMove g0) p11 
(dLook (nat_lit 1) [] [] (lkMove g1) p12 
(dLook (nat_lit 2) [] [] (lkMove g0) p13 
(dLook (nat_lit 3) [] [] (lkMove g3) p14 
(dLook (nat_lit 4) [] [] (lkMove g0) p15 
(dLook (nat_lit 5) [] [] (lkMove g3) p16 
(dLook (nat_lit 6) [] [] (lkIxSl (nat_lit 1) g15 g16) p17 
(dLook (nat_lit 7) [] [] (lkLoad1 g17) p18 
(dLook (nat_lit 8) [] [] (lkMove g0) p19 
(dLook (nat_lit 9) [] [] (lkMove g1) p20 
(dLook (nat_lit 10) [] [] (lkIxSl (nat_lit 1) g19 g20) p21 
(dLook (nat_lit 11) [] [] (lkLoad1 g21) p22 
(dLook (nat_lit 12) [] [] (lkIxSl (nat_lit 1) g11 g12) p23 
(dTurn (nat_lit 13) [] [] true (xTurn (tnStore (nat_lit 1) g23 g18)) noDst 
(dLook (nat_lit 14) [] [(nat_lit 13)] (lkIxSl (nat_lit 1) g13 g14) p24 
(dTurn (nat_lit 15) [] [(nat_lit 13)] true (xTurn (tnStore (nat_lit 1) g24 g22)) noDst (dEnd [(nat_lit 11), (nat_lit 12), (nat_lit 13), (nat_lit 14), (nat_lit 15), (nat_lit 16), (nat_lit 17), (nat_lit 18), (nat_lit 19), (nat_lit 20), (nat_lit 21), (nat_lit 22), (nat_lit 23), (nat_lit 24)])))))))))))))))))) (kSeq (oSet (xMove g1) p25 
(oSet (xLook (lkBin .add g25 q11)) p26 
(oSet (xMove g2) p27 
(oSet (xLook (lkBin .sub g27 q11)) p28 
(oSet (xMove g26) p9 
(oSet (xMove g28) p10 
oEnd)))))) (kSeq (kBlock (nat_lit 0) (kLoop (kBlock (nat_lit 1) (kSeq (kBlock (nat_lit 2) (kLoop (kSeq (kSeq (kDraw 
(dLook (nat_lit 0) [] [] (lkMove g9) p29 
(dLook (nat_lit 1) [] [] (lkMove g10) p30 
(dLook (nat_lit 2) [] [] (lkBin .leq g29 g30) p31 
(dLook (nat_lit 3) [] [] (lkMove g31) p32 
(dIf [] (wantT g32) p33 (dLook (nat_lit 4) [] [] (lkMove g0) p33 k317d9) k317d9)))))) (kCond g43 kSkip (kExit (nat_lit 2)))) (kBlock (nat_lit 3) (oSet (xMove g9) p44 
(oSet (xLook (lkBin .add g44 q11)) p45 
(oSet (xMove g45) p9 
oEnd))))))) (kSeq (kBlock (nat_lit 4) (kLoop (kSeq (kSeq (kDraw 
(dLook (nat_lit 0) [] [] (lkMove g9) p46 
(dLook (nat_lit 1) [] [] (lkMove g10) p47 
(dLook (nat_lit 2) [] [] (lkBin .leq g46 g47) p48 
(dLook (nat_lit 3) [] [] (lkMove g48) p49 
(dIf [] (wantT g49) p50 (dLook (nat_lit 4) [] [] (lkMove g0) p50 k317d18) k317d18)))))) (kCond g59 kSkip (kExit (nat_lit 4)))) (kBlock (nat_lit 5) (oSet (xMove g10) p60 
(oSet (xLook (lkBin .sub g60 q11)) p61 
(oSet (xMove g61) p10 
oEnd))))))) (kSeq (kSeq (oSet (xMove g9) p62 
(oSet (xMove g10) p63 
(oSet (xLook (lkBin .gtr g62 g63)) p64 
oEnd))) (kCond g64 (kExit (nat_lit 0)) kSkip)) (kSeq (kDraw 
(dLook (nat_lit 0) [] [] (lkMove g0) p65 
(dLook (nat_lit 1) [] [] (lkMove g9) p66 
(dLook (nat_lit 2) [] [] (lkMove g0) p67 
(dLook (nat_lit 3) [] [] (lkMove g10) p68 
(dLook (nat_lit 4) [] [] (lkMove g0) p69 
(dLook (nat_lit 5) [] [] (lkMove g10) p70 
(dLook (nat_lit 6) [] [] (lkIxSl (nat_lit 1) g69 g70) p71 
(dLook (nat_lit 7) [] [] (lkLoad1 g71) p72 
(dLook (nat_lit 8) [] [] (lkMove g0) p73 
(dLook (nat_lit 9) [] [] (lkMove g9) p74 
(dLook (nat_lit 10) [] [] (lkIxSl (nat_lit 1) g73 g74) p75 
(dLook (nat_lit 11) [] [] (lkLoad1 g75) p76 
(dLook (nat_lit 12) [] [] (lkIxSl (nat_lit 1) g65 g66) p77 
(dTurn (nat_lit 13) [] [] true (xTurn (tnStore (nat_lit 1) g77 g72)) noDst 
(dLook (nat_lit 14) [] [(nat_lit 13)] (lkIxSl (nat_lit 1) g67 g68) p78 
(dTurn (nat_lit 15) [] [(nat_lit 13)] true (xTurn (tnStore (nat_lit 1) g78 g76)) noDst (dEnd [(nat_lit 65), (nat_lit 66), (nat_lit 67), (nat_lit 68), (nat_lit 69), (nat_lit 70), (nat_lit 71), (nat_lit 72), (nat_lit 73), (nat_lit 74), (nat_lit 75), (nat_lit 76), (nat_lit 77), (nat_lit 78)])))))))))))))))))) (kSeq (oSet (xMove g9) p79 
(oSet (xLook (lkBin .add g79 q11)) p80 
(oSet (xMove g80) p9 
oEnd))) (oSet (xMove g10) p81 
(oSet (xLook (lkBin .sub g81 q11)) p82 
(oSet (xMove g82) p10 
oEnd))))))))))) (kSeq (oSet (xMove g9) p83 
(oSet (xMove g83) p8 
oEnd)) kRet)))))⟩
noncomputable def k318d0 : KD := 
(dLook (nat_lit 13) [] [(nat_lit 12)] (lkPick g33 g42 q0) p43 (dEnd [(nat_lit 30), (nat_lit 31), (nat_lit 32), (nat_lit 33), (nat_lit 34), (nat_lit 35), (nat_lit 36), (nat_lit 37), (nat_lit 38), (nat_lit 39), (nat_lit 40), (nat_lit 41), (nat_lit 42), (nat_lit 43)]))
noncomputable def k318d1 : KD := 
(dIf [] (wantT g33) p42 (dTurn (nat_lit 12) [] [] true (xCall q347 [g37, g41]) p42 k318d0) k318d0)
noncomputable def k318d2 : KD := 
(dIf [] (wantT g33) p41 (dLook (nat_lit 11) [] [] (lkLoad1 g40) p41 k318d1) k318d1)
noncomputable def k318d3 : KD := 
(dIf [] (wantT g33) p40 (dLook (nat_lit 10) [] [] (lkIxSl (nat_lit 1) g38 g39) p40 k318d2) k318d2)
noncomputable def k318d4 : KD := 
(dIf [] (wantT g33) p39 (dLook (nat_lit 9) [] [] (lkMove g1) p39 k318d3) k318d3)
noncomputable def k318d5 : KD := 
(dIf [] (wantT g33) p38 (dLook (nat_lit 8) [] [] (lkMove g0) p38 k318d4) k318d4)
noncomputable def k318d6 : KD := 
(dIf [] (wantT g33) p37 (dLook (nat_lit 7) [] [] (lkLoad1 g36) p37 k318d5) k318d5)
noncomputable def k318d7 : KD := 
(dIf [] (wantT g33) p36 (dLook (nat_lit 6) [] [] (lkIxSl (nat_lit 1) g34 g35) p36 k318d6) k318d6)
noncomputable def k318d8 : KD := 
(dIf [] (wantT g33) p35 (dLook (nat_lit 5) [] [] (lkMove g10) p35 k318d7) k318d7)
noncomputable def k318d9 : KD := 
(dLook (nat_lit 14) [] [(nat_lit 12)] (lkPick g49 g59 q0) p60 (dEnd [(nat_lit 46), (nat_lit 47), (nat_lit 48), (nat_lit 49), (nat_lit 50), (nat_lit 51), (nat_lit 52), (nat_lit 53), (nat_lit 54), (nat_lit 55), (nat_lit 56), (nat_lit 57), (nat_lit 58), (nat_lit 59), (nat_lit 60)]))
noncomputable def k318d10 : KD := 
(dIf [(nat_lit 12)] (wantT g49) p59 (dLook (nat_lit 13) [] [(nat_lit 12)] (lkUn .not g58) p59 k318d9) k318d9)
noncomputable def k318d11 : KD := 
(dIf [] (wantT g49) p58 (dTurn (nat_lit 12) [] [] true (xCall q347 [g53, g57]) p58 k318d10) k318d10)
noncomputable def k318d12 : KD := 
(dIf [] (wantT g49) p57 (dLook (nat_lit 11) [] [] (lkLoad1 g56) p57 k318d11) k318d11)
noncomputable def k318d13 : KD := 
(dIf [] (wantT g49) p56 (dLook (nat_lit 10) [] [] (lkIxSl (nat_lit 1) g54 g55) p56 k318d12) k318d12)
noncomputable def k318d14 : KD := 
(dIf [] (wantT g49) p55 (dLook (nat_lit 9) [] [] (lkMove g1) p55 k318d13) k318d13)
noncomputable def k318d15 : KD := 
(dIf [] (wantT g49) p54 (dLook (nat_lit 8) [] [] (lkMove g0) p54 k318d14) k318d14)
noncomputable def k318d16 : KD := 
(dIf [] (wantT g49) p53 (dLook (nat_lit 7) [] [] (lkLoad1 g52) p53 k318d15) k318d15)
noncomputable def k318d17 : KD := 
(dIf [] (wantT g49) p52 (dLook (nat_lit 6) [] [] (lkIxSl (nat_lit 1) g50 g51) p52 k318d16) k318d16)
noncomputable def k318d18 : KD := 
(dIf [] (wantT g49) p51 (dLook (nat_lit 5) [] [] (lkMove g11) p51 k318d17) k318d17)
noncomputable def k318d19 : KD := 
(dLook (nat_lit 13) [] [(nat_lit 12)] (lkPick g102 g111 q0) p112 (dEnd [(nat_lit 99), (nat_lit 100), (nat_lit 101), (nat_lit 102), (nat_lit 103), (nat_lit 104), (nat_lit 105), (nat_lit 106), (nat_lit 107), (nat_lit 108), (nat_lit 109), (nat_lit 110), (nat_lit 111), (nat_lit 112)]))
noncomputable def k318d20 : KD := 
(dIf [] (wantT g102) p111 (dTurn (nat_lit 12) [] [] true (xCall q347 [g106, g110]) p111 k318d19) k318d19)
noncomputable def k318d21 : KD := 
(dIf [] (wantT g102) p110 (dLook (nat_lit 11) [] [] (lkLoad1 g109) p110 k318d20) k318d20)
noncomputable def k318d22 : KD := 
(dIf [] (wantT g102) p109 (dLook (nat_lit 10) [] [] (lkIxSl (nat_lit 1) g107 g108) p109 k318d21) k318d21)
noncomputable def k318d23 : KD := 
(dIf [] (wantT g102) p108 (dLook (nat_lit 9) [] [] (lkMove g1) p108 k318d22) k318d22)
noncomputable def k318d24 : KD := 
(dIf [] (wantT g102) p107 (dLook (nat_lit 8) [] [] (lkMove g0) p107 k318d23) k318d23)
noncomputable def k318d25 : KD := 
(dIf [] (wantT g102) p106 (dLook (nat_lit 7) [] [] (lkLoad1 g105) p106 k318d24) k318d24)
noncomputable def k318d26 : KD := 
(dIf [] (wantT g102) p105 (dLook (nat_lit 6) [] [] (lkIxSl (nat_lit 1) g103 g104) p105 k318d25) k318d25)
noncomputable def k318d27 : KD := 
(dIf [] (wantT g102) p104 (dLook (nat_lit 5) [] [] (lkMove g10) p104 k318d26) k318d26)
noncomputable def k318d28 : KD := 
(dLook (nat_lit 14) [] [(nat_lit 12)] (lkPick g118 g128 q0) p129 (dEnd [(nat_lit 115), (nat_lit 116), (nat_lit 117), (nat_lit 118), (nat_lit 119), (nat_lit 120), (nat_lit 121), (nat_lit 122), (nat_lit 123), (nat_lit 124), (nat_lit 125), (nat_lit 126), (nat_lit 127), (nat_lit 128), (nat_lit 129)]))
noncomputable def k318d29 : KD := 
(dIf [(nat_lit 12)] (wantT g118) p128 (dLook (nat_lit 13) [] [(nat_lit 12)] (lkUn .not g127) p128 k318d28) k318d28)
noncomputable def k318d30 : KD := 
(dIf [] (wantT g118) p127 (dTurn (nat_lit 12) [] [] true (xCall q347 [g122, g126]) p127 k318d29) k318d29)
noncomputable def k318d31 : KD := 
(dIf [] (wantT g118) p126 (dLook (nat_lit 11) [] [] (lkLoad1 g125) p126 k318d30) k318d30)
noncomputable def k318d32 : KD := 
(dIf [] (wantT g118) p125 (dLook (nat_lit 10) [] [] (lkIxSl (nat_lit 1) g123 g124) p125 k318d31) k318d31)
noncomputable def k318d33 : KD := 
(dIf [] (wantT g118) p124 (dLook (nat_lit 9) [] [] (lkMove g1) p124 k318d32) k318d32)
noncomputable def k318d34 : KD := 
(dIf [] (wantT g118) p123 (dLook (nat_lit 8) [] [] (lkMove g0) p123 k318d33) k318d33)
noncomputable def k318d35 : KD := 
(dIf [] (wantT g118) p122 (dLook (nat_lit 7) [] [] (lkLoad1 g121) p122 k318d34) k318d34)
noncomputable def k318d36 : KD := 
(dIf [] (wantT g118) p121 (dLook (nat_lit 6) [] [] (lkIxSl (nat_lit 1) g119 g120) p121 k318d35) k318d35)
noncomputable def k318d37 : KD := 
(dIf [] (wantT g118) p120 (dLook (nat_lit 5) [] [] (lkMove g11) p120 k318d36) k318d36)
noncomputable def k318 : KFun := ⟨[rTmp (nat_lit 8) g8, rTmp (nat_lit 9) g9], (kSeq (oSet (xMove q16) p8 
(oSet (xMove q0) p9 
oEnd)) (kSeq (kDraw 
(dLook (nat_lit 0) [] [] (lkMove g0) p12 
(dLook (nat_lit 1) [] [] (lkMove g1) p13 
(dLook (nat_lit 2) [] [] (lkMove g0) p14 
(dLook (nat_lit 3) [] [] (lkMove g3) p15 
(dLook (nat_lit 4) [] [] (lkMove g0) p16 
(dLook (nat_lit 5) [] [] (lkMove g3) p17 
(dLook (nat_lit 6) [] [] (lkIxSl (nat_lit 1) g16 g17) p18 
(dLook (nat_lit 7) [] [] (lkLoad1 g18) p19 
(dLook (nat_lit 8) [] [] (lkMove g0) p20 
(dLook (nat_lit 9) [] [] (lkMove g1) p21 
(dLook (nat_lit 10) [] [] (lkIxSl (nat_lit 1) g20 g21) p22 
(dLook (nat_lit 11) [] [] (lkLoad1 g22) p23 
(dLook (nat_lit 12) [] [] (lkIxSl (nat_lit 1) g12 g13) p24 
(dTurn (nat_lit 13) [] [] true (xTurn (tnStore (nat_lit 1) g24 g19)) noDst 
(dLook (nat_lit 14) [] [(nat_lit 13)] (lkIxSl (nat_lit 1) g14 g15) p25 
(dTurn (nat_lit 15) [] [(nat_lit 13)] true (xTurn (tnStore (nat_lit 1) g25 g23)) noDst (dEnd [(nat_lit 12), (nat_lit 13), (nat_lit 14), (nat_lit 15), (nat_lit 16), (nat_lit 17), (nat_lit 18), (nat_lit 19), (nat_lit 20), (nat_lit 21), (nat_lit 22), (nat_lit 23), (nat_lit 24), (nat_lit 25)])))))))))))))))))) (kSeq (oSet (xMove g1) p26 
(oSet (xLook (lkBin .add g26 q11)) p27 
(oSet (xMove g2) p28 
(oSet (xLook (lkBin .sub g28 q11)) p29 
(oSet (xMove g27) p10 
(oSet (xMove g29) p11 
oEnd)))))) (kSeq (kBlock (nat_lit 0) (kLoop (kSeq (kSeq (kDraw 
(dLook (nat_lit 0) [] [] (lkMove g10) p30 
(dLook (nat_lit 1) [] [] (lkMove g11) p31 
(dLook (nat_lit 2) [] [] (lkBin .leq g30 g31) p32 
(dLook (nat_lit 3) [] [] (lkMove g32) p33 
(dIf [] (wantT g33) p34 (dLook (nat_lit 4) [] [] (lkMove g0) p34 k318d8) k318d8)))))) (kCond g43 kSkip (kExit (nat_lit 0)))) (kBlock (nat_lit 1) (oSet (xMove g10) p44 
(oSet (xLook (lkBin .add g44 q11)) p45 
(oSet (xMove g45) p10 
oEnd))))))) (kSeq (kBlock (nat_lit 2) (kLoop (kSeq (kSeq (kDraw 
(dLook (nat_lit 0) [] [] (lkMove g10) p46 
(dLook (nat_lit 1) [] [] (lkMove g11) p47 
(dLook (nat_lit 2) [] [] (lkBin .leq g46 g47) p48 
(dLook (nat_lit 3) [] [] (lkMove g48) p49 
(dIf [] (wantT g49) p50 (dLook (nat_lit 4) [] [] (lkMove g0) p50 k318d18) k318d18)))))) (kCond g60 kSkip (kExit (nat_lit 2)))) (kBlock (nat_lit 3) (oSet (xMove g11) p61 
(oSet (xLook (lkBin .sub g61 q11)) p62 
(oSet (xMove g62) p11 
oEnd))))))) (kSeq (kSeq (oSet (xMove g10) p63 
(oSet (xMove g11) p64 
(oSet (xLook (lkBin .gtr g63 g64)) p65 
oEnd))) (kCond g65 (kSeq (kDraw 
(dLook (nat_lit 0) [] [] (lkMove g0) p66 
(dLook (nat_lit 1) [] [] (lkMove g11) p67 
(dLook (nat_lit 2) [] [] (lkMove g0) p68 
(dLook (nat_lit 3) [] [] (lkMove g1) p69 
(dLook (nat_lit 4) [] [] (lkMove g0) p70 
(dLook (nat_lit 5) [] [] (lkMove g1) p71 
(dLook (nat_lit 6) [] [] (lkIxSl (nat_lit 1) g70 g71) p72 
(dLook (nat_lit 7) [] [] (lkLoad1 g72) p73 
(dLook (nat_lit 8) [] [] (lkMove g0) p74 
(dLook (nat_lit 9) [] [] (lkMove g11) p75 
(dLook (nat_lit 10) [] [] (lkIxSl (nat_lit 1) g74 g75) p76 
(dLook (nat_lit 11) [] [] (lkLoad1 g76) p77 
(dLook (nat_lit 12) [] [] (lkIxSl (nat_lit 1) g66 g67) p78 
(dTurn (nat_lit 13) [] [] true (xTurn (tnStore (nat_lit 1) g78 g73)) noDst 
(dLook (nat_lit 14) [] [(nat_lit 13)] (lkIxSl (nat_lit 1) g68 g69) p79 
(dTurn (nat_lit 15) [] [(nat_lit 13)] true (xTurn (tnStore (nat_lit 1) g79 g77)) noDst (dEnd [(nat_lit 66), (nat_lit 67), (nat_lit 68), (nat_lit 69), (nat_lit 70), (nat_lit 71), (nat_lit 72), (nat_lit 73), (nat_lit 74), (nat_lit 75), (nat_lit 76), (nat_lit 77), (nat_lit 78), (nat_lit 79)])))))))))))))))))) (kSeq (oSet (xMove g11) p80 
(oSet (xMove g80) p8 
(oSet (xMove q2) p9 
oEnd))) kRet)) kSkip)) (kSeq (kDraw 
(dLook (nat_lit 0) [] [] (lkMove g0) p81 
(dLook (nat_lit 1) [] [] (lkMove g10) p82 
(dLook (nat_lit 2) [] [] (lkMove g0) p83 
(dLook (nat_lit 3) [] [] (lkMove g11) p84 
(dLook (nat_lit 4) [] [] (lkMove g0) p85 
(dLook (nat_lit 5) [] [] (lkMove g11) p86 
(dLook (nat_lit 6) [] [] (lkIxSl (nat_lit 1) g85 g86) p87 
(dLook (nat_lit 7) [] [] (lkLoad1 g87) p88 
(dLook (nat_lit 8) [] [] (lkMove g0) p89 
(dLook (nat_lit 9) [] [] (lkMove g10) p90 
(dLook (nat_lit 10) [] [] (lkIxSl (nat_lit 1) g89 g90) p91 
(dLook (nat_lit 11) [] [] (lkLoad1 g91) p92 
(dLook (nat_lit 12) [] [] (lkIxSl (nat_lit 1) g81 g82) p93 
(dTurn (nat_lit 13) [] [] true (xTurn (tnStore (nat_lit 1) g93 g88)) noDst 
(dLook (nat_lit 14) [] [(nat_lit 13)] (lkIxSl (nat_lit 1) g83 g84) p94 
(dTurn (nat_lit 15) [] [(nat_lit 13)] true (xTurn (tnStore (nat_lit 1) g94 g92)) noDst (dEnd [(nat_lit 81), (nat_lit 82), (nat_lit 83), (nat_lit 84), (nat_lit 85), (nat_lit 86), (nat_lit 87), (nat_lit 88), (nat_lit 89), (nat_lit 90), (nat_lit 91), (nat_lit 92), (nat_lit 93), (nat_lit 94)])))))))))))))))))) (kSeq (oSet (xMove g10) p95 
(oSet (xLook (lkBin .add g95 q11)) p96 
(oSet (xMove g96) p10 
oEnd))) (kSeq (oSet (xMove g11) p97 
(oSet (xLook (lkBin .sub g97 q11)) p98 
(oSet (xMove g98) p11 
oEnd))) (kSeq (kBlock (nat_lit 4) (kLoop (kBlock (nat_lit 5) (kSeq (kBlock (nat_lit 6) (kLoop (kSeq (kSeq (kDraw 
(dLook (nat_lit 0) [] [] (lkMove g10) p99 
(dLook (nat_lit 1) [] [] (lkMove g11) p100 
(dLook (nat_lit 2) [] [] (lkBin .leq g99 g100) p101 
(dLook (nat_lit 3) [] [] (lkMove g101) p102 
(dIf [] (wantT g102) p103 (dLook (nat_lit 4) [] [] (lkMove g0) p103 k318d27) k318d27)))))) (kCond g112 kSkip (kExit (nat_lit 6)))) (kBlock (nat_lit 7) (oSet (xMove g10) p113 
(oSet (xLook (lkBin .add g113 q11)) p114 
(oSet (xMove g114) p10 
oEnd))))))) (kSeq (kBlock (nat_lit 8) (kLoop (kSeq (kSeq (kDraw 
(dLook (nat_lit 0) [] [] (lkMove g10) p115 
(dLook (nat_lit 1) [] [] (lkMove g11) p116 
(dLook (nat_lit 2) [] [] (lkBin .leq g115 g116) p117 
(dLook (nat_lit 3) [] [] (lkMove g117) p118 
(dIf [] (wantT g118) p119 (dLook (nat_lit 4) [] [] (lkMove g0) p119 k318d37) k318d37)))))) (kCond g129 kSkip (kExit (nat_lit 8)))) (kBlock (nat_lit 9) (oSet (xMove g11) p130 
(oSet (xLook (lkBin .sub g130 q11)) p131 
(oSet (xMove g131) p11 
oEnd))))))) (kSeq (kSeq (oSet (xMove g10) p132 
(oSet (xMove g11) p133 
(oSet (xLook (lkBin .gtr g132 g133)) p134 
oEnd))) (kCond g134 (kExit (nat_lit 4)) kSkip)) (kSeq (kDraw 
(dLook (nat_lit 0) [] [] (lkMove g0) p135 
(dLook (nat_lit 1) [] [] (lkMove g10) p136 
(dLook (nat_lit 2) [] [] (lkMove g0) p137 
(dLook (nat_lit 3) [] [] (lkMove g11) p138 
(dLook (nat_lit 4) [] [] (lkMove g0) p139 
(dLook (nat_lit 5) [] [] (lkMove g11) p140 
(dLook (nat_lit 6) [] [] (lkIxSl (nat_lit 1) g139 g140) p141 
(dLook (nat_lit 7) [] [] (lkLoad1 g141) p142 
(dLook (nat_lit 8) [] [] (lkMove g0) p143 
(dLook (nat_lit 9) [] [] (lkMove g10) p144 
(dLook (nat_lit 10) [] [] (lkIxSl (nat_lit 1) g143 g144) p145 
(dLook (nat_lit 11) [] [] (lkLoad1 g145) p146 
(dLook (nat_lit 12) [] [] (lkIxSl (nat_lit 1) g135 g136) p147 
(dTurn (nat_lit 13) [] [] true (xTurn (tnStore (nat_lit 1) g147 g142)) noDst 
(dLook (nat_lit 14) [] [(nat_lit 13)] (lkIxSl (nat_lit 1) g137 g138) p148 
(dTurn (nat_lit 15) [] [(nat_lit 13)] true (xTurn (tnStore (nat_lit 1) g148 g146)) noDst (dEnd [(nat_lit 135), (nat_lit 136), (nat_lit 137), (nat_lit 138), (nat_lit 139), (nat_lit 140), (nat_lit 141), (nat_lit 142), (nat_lit 143), (nat_lit 144), (nat_lit 145), (nat_lit 146), (nat_lit 147), (nat_lit 148)])))))))))))))))))) (kSeq (oSet (xMove g10) p149 
(oSet (xLook (lkBin .add g149 q11)) p150 
(oSet (xMove g150) p10 
oEnd))) (oSet (xMove g11) p151 
(oSet (xLook (lkBin .sub g151 q11)) p152 
(oSet (xMove g152) p11 
oEnd))))))))))) (kSeq (kDraw 
(dLook (nat_lit 0) [] [] (lkMove g0) p153 
(dLook (nat_lit 1) [] [] (lkMove g11) p154 
(dLook (nat_lit 2) [] [] (lkMove g0) p155 
(dLook (nat_lit 3) [] [] (lkMove g1) p156 
(dLook (nat_lit 4) [] [] (lkMove g0) p157 
(dLook (nat_lit 5) [] [] (lkMove g1) p158 
(dLook (nat_lit 6) [] [] (lkIxSl (nat_lit 1) g157 g158) p159 
(dLook (nat_lit 7) [] [] (lkLoad1 g159) p160 
(dLook (nat_lit 8) [] [] (lkMove g0) p161 
(dLook (nat_lit 9) [] [] (lkMove g11) p162 
(dLook (nat_lit 10) [] [] (lkIxSl (nat_lit 1) g161 g162) p163 
(dLook (nat_lit 11) [] [] (lkLoad1 g163) p164 
(dLook (nat_lit 12) [] [] (lkIxSl (nat_lit 1) g153 g154) p165 
(dTurn (nat_lit 13) [] [] true (xTurn (tnStore (nat_lit 1) g165 g160)) noDst 
(dLook (nat_lit 14) [] [(nat_lit 13)] (lkIxSl (nat_lit 1) g155 g156) p166 
(dTurn (nat_lit 15) [] [(nat_lit 13)] true (xTurn (tnStore (nat_lit 1) g166 g164)) noDst (dEnd [(nat_lit 153), (nat_lit 154), (nat_lit 155), (nat_lit 156), (nat_lit 157), (nat_lit 158), (nat_lit 159), (nat_lit 160), (nat_lit 161), (nat_lit 162), (nat_lit 163), (nat_lit 164), (nat_lit 165), (nat_lit 166)])))))))))))))))))) (kSeq (oSet (xMove g11) p167 
(oSet (xMove g167) p8 
(oSet (xMove q0) p9 
oEnd))) kRet))))))))))))⟩
noncomputable def k326 : KFun := ⟨[], (kSeq (oSet (xMove g0) p4 
(oSet (xLook (lkLen .sl g4)) p5 
(oSet (xLook (lkBin .sub g5 q11)) p6 
(oSet (xMove q16) p2 
(oSet (xMove g6) p3 
oEnd))))) (kBlock (nat_lit 0) (kLoop (kSeq (kSeq (oSet (xMove g2) p7 
(oSet (xMove g3) p8 
(oSet (xLook (lkBin .lss g7 g8)) p9 
oEnd))) (kCond g9 kSkip (kExit (nat_lit 0)))) (kSeq (kBlock (nat_lit 1) (kDraw 
(dLook (nat_lit 0) [] [] (lkMove g0) p14 
(dLook (nat_lit 1) [] [] (lkMove g2) p15 
(dLook (nat_lit 2) [] [] (lkMove g0) p16 
(dLook (nat_lit 3) [] [] (lkMove g3) p17 
(dLook (nat_lit 4) [] [] (lkMove g0) p18 
(dLook (nat_lit 5) [] [] (lkMove g3) p19 
(dLook (nat_lit 6) [] [] (lkIxSl (nat_lit 2) g18 g19) p20 
(dLook (nat_lit 7) [] [] (lkLoadN (nat_lit 2) g20) p21 
(dLook (nat_lit 8) [] [] (lkMove g0) p22 
(dLook (nat_lit 9) [] [] (lkMove g2) p23 
(dLook (nat_lit 10) [] [] (lkIxSl (nat_lit 2) g22 g23) p24 
(dLook (nat_lit 11) [] [] (lkLoadN (nat_lit 2) g24) p25 
(dLook (nat_lit 12) [] [] (lkIxSl (nat_lit 2) g14 g15) p26 
(dTurn (nat_lit 13) [] [] true (xTurn (tnStore (nat_lit 2) g26 g21)) noDst 
(dLook (nat_lit 14) [] [(nat_lit 13)] (lkIxSl (nat_lit 2) g16 g17) p27 
(dTurn (nat_lit 15) [] [(nat_lit 13)] true (xTurn (tnStore (nat_lit 2) g27 g25)) noDst (dEnd [(nat_lit 14), (nat_lit 15), (nat_lit 16), (nat_lit 17), (nat_lit 18), (nat_lit 19), (nat_lit 20), (nat_lit 21), (nat_lit 22), (nat_lit 23), (nat_lit 24), (nat_lit 25), (nat_lit 26), (nat_lit 27)]))))))))))))))))))) (oSet (xMove g2) p10 
(oSet (xLook (lkBin .add g10 q11)) p11 
(oSet (xMove g3) p12 
(oSet (xLook (lkBin .sub g12 q11)) p13 
(oSet (xMove g11) p2 
(oSet (xMove g13) p3 
oEnd)))))))))))⟩
noncomputable def k327 : KFun := ⟨[rTmp (nat_lit 10) g10, rTmp (nat_lit 11) g11], (kSeq (oSet (xMove q16) p10 
(oSet (xMove q16) p11 
oEnd)) (kSeq (kSeq (kDraw 
(dLook (nat_lit 0) [] [] (lkMove g4) p12 
(dLook (nat_lit 1) [] [] (lkMove g0) p13 
(dLook (nat_lit 2) [] [] (lkMove g2) p14 
(dLook (nat_lit 3) [] [] (lkIxSl (nat_lit 2) g13 g14) p15 
(dLook (nat_lit 4) [] [] (lkLoadN (nat_lit 2) g15) p16 
(dLook (nat_lit 5) [] [] (lkMove g0) p17 
(dLook (nat_lit 6) [] [] (lkMove g1) p18 
(dLook (nat_lit 7) [] [] (lkIxSl (nat_lit 2) g17 g18) p19 
(dLook (nat_lit 8) [] [] (lkLoadN (nat_lit 2) g19) p20 
(dTurn (nat_lit 9) [] [] true (xCall g12 [g16, g20]) p21 
(dLook (nat_lit 10) [] [(nat_lit 9)] (lkBin .lss g21 q16) p22 (dEnd [(nat_lit 12), (nat_lit 13), (nat_lit 14), (nat_lit 15), (nat_lit 16), (nat_lit 17), (nat_lit 18), (nat_lit 19), (nat_lit 20), (nat_lit 21), (nat_lit 22)]))))))))))))) (kCond g22 (kSeq (oSet (xMove g3) p23 
(oSet (xNil g23) p24 
(oSet (xLook (lkLoad1 g24)) p25 
(oSet (xLook (lkBin .add g25 q11)) p26 
(oSet (xNil g23) p27 
(oDo (xTurn (tnStore (nat_lit 1) g27 g26)) 
oEnd)))))) (kSeq (oSet (xMove g2) p28 
(oSet (xMove g1) p29 
(oSet (xMove g28) p10 
(oSet (xMove g29) p11 
oEnd)))) kRet)) kSkip)) (kSeq (oSet (xMove g1) p30 
(oSet (xMove g2) p31 
(oSet (xMove g30) p10 
(oSet (xMove g31) p11 
oEnd)))) kRet)))⟩
noncomputable def k328d0 : KD := 
(dLook (nat_lit 19) [] [(nat_lit 18)] (lkPick g21 g35 q0) p36 (dEnd [(nat_lit 17), (nat_lit 18), (nat_lit 19), (nat_lit 20), (nat_lit 21), (nat_lit 22), (nat_lit 23), (nat_lit 24), (nat_lit 25), (nat_lit 26), (nat_lit 27), (nat_lit 28), (nat_lit 29), (nat_lit 30), (nat_lit 31), (nat_lit 32), (nat_lit 33), (nat_lit 34), (nat_lit 35), (nat_lit 36)]))
noncomputable def k328d1 : KD := 
(dIf [] (wantT g21) p35 (dTurn (nat_lit 18) [] [] true (xCall q347 [g27, g34]) p35 k328d0) k328d0)
noncomputable def k328d2 : KD := 
(dIf [] (wantT g21) p34 (dLook (nat_lit 17) [] [] (lkLoad1 g33) p34 k328d1) k328d1)
noncomputable def k328d3 : KD := 
(dIf [] (wantT g21) p33 (dLook (nat_lit 16) [] [] (lkIxSl (nat_lit 1) g28 g32) p33 k328d2) k328d2)
noncomputable def k328d4 : KD := 
(dIf [] (wantT g21) p32 (dLook (nat_lit 15) [] [] (lkBin .add g31 q11) p32 k328d3) k328d3)
noncomputable def k328d5 : KD := 
(dIf [] (wantT g21) p31 (dLook (nat_lit 14) [] [] (lkBin .add g29 g30) p31 k328d4) k328d4)
noncomputable def k328d6 : KD := 
(dIf [] (wantT g21) p30 (dLook (nat_lit 13) [] [] (lkMove g9) p30 k328d5) k328d5)
noncomputable def k328d7 : KD := 
(dIf [] (wantT g21) p29 (dLook (nat_lit 12) [] [] (lkMove g3) p29 k328d6) k328d6)
noncomputable def k328d8 : KD := 
(dIf [] (wantT g21) p28 (dLook (nat_lit 11) [] [] (lkMove g0) p28 k328d7) k328d7)
noncomputable def k328d9 : KD := 
(dIf [] (wantT g21) p27 (dLook (nat_lit 10) [] [] (lkLoad1 g26) p27 k328d8) k328d8)
noncomputable def k328d10 : KD := 
(dIf [] (wantT g21) p26 (dLook (nat_lit 9) [] [] (lkIxSl (nat_lit 1) g22 g25) p26 k328d9) k328d9)
noncomputable def k328d11 : KD := 
(dIf [] (wantT g21) p25 (dLook (nat_lit 8) [] [] (lkBin .add g23 g24) p25 k328d10) k328d10)
noncomputable def k328d12 : KD := 
(dIf [] (wantT g21) p24 (dLook (nat_lit 7) [] [] (lkMove g9) p24 k328d11) k328d11)
noncomputable def k328d13 : KD := 
(dIf [] (wantT g21) p23 (dLook (nat_lit 6) [] [] (lkMove g3) p23 k328d12) k328d12)
noncomputable def k328 : KFun := ⟨[], (kSeq (oSet (xMove g1) p10 
(oSet (xMove g10) p8 
oEnd)) (kBlock (nat_lit 0) (kLoop (kBlock (nat_lit 1) (kSeq (oSet (xMove g8) p11 
(oSet (xLook (lkBin .mul q32 g11)) p12 
(oSet (xLook (lkBin .add g12 q11)) p13 
(oSet (xMove g13) p9 
oEnd)))) (kSeq (kSeq (oSet (xMove g9) p14 
(oSet (xMove g2) p15 
(oSet (xLook (lkBin .geq g14 g15)) p16 
oEnd))) (kCond g16 (kExit (nat_lit 0)) kSkip)) (kSeq (kSeq (kDraw 
(dLook (nat_lit 0) [] [] (lkMove g9) p17 
(dLook (nat_lit 1) [] [] (lkBin .add g17 q11) p18 
(dLook (nat_lit 2) [] [] (lkMove g2) p19 
(dLook (nat_lit 3) [] [] (lkBin .lss g18 g19) p20 
(dLook (nat_lit 4) [] [] (lkMove g20) p21 
(dIf [] (wantT g21) p22 (dLook (nat_lit 5) [] [] (lkMove g0) p22 k328d13) k328d13))))))) (kCond g36 (oSet (xMove g9) p37 
(oSet (xLook (lkBin .add g37 q11)) p38 
(oSet (xMove g38) p9 
oEnd))) kSkip)) (kSeq (kSeq (kDraw 
(dLook (nat_lit 0) [] [] (lkMove g0) p39 
(dLook (nat_lit 1) [] [] (lkMove g3) p40 
(dLook (nat_lit 2) [] [] (lkMove g8) p41 
(dLook (nat_lit 3) [] [] (lkBin .add g40 g41) p42 
(dLook (nat_lit 4) [] [] (lkIxSl (nat_lit 1) g39 g42) p43 
(dLook (nat_lit 5) [] [] (lkLoad1 g43) p44 
(dLook (nat_lit 6) [] [] (lkMove g0) p45 
(dLook (nat_lit 7) [] [] (lkMove g3) p46 
(dLook (nat_lit 8) [] [] (lkMove g9) p47 
(dLook (nat_lit 9) [] [] (lkBin .add g46 g47) p48 
(dLook (nat_lit 10) [] [] (lkIxSl (nat_lit 1) g45 g48) p49 
(dLook (nat_lit 11) [] [] (lkLoad1 g49) p50 
(dTurn (nat_lit 12) [] [] true (xCall q347 [g44, g50]) p51 
(dLook (nat_lit 13) [] [(nat_lit 12)] (lkUn .not g51) p52 (dEnd [(nat_lit 39), (nat_lit 40), (nat_lit 41), (nat_lit 42), (nat_lit 43), (nat_lit 44), (nat_lit 45), (nat_lit 46), (nat_lit 47), (nat_lit 48), (nat_lit 49), (nat_lit 50), (nat_lit 51), (nat_lit 52)])))))))))))))))) (kCond g52 kRet kSkip)) (kSeq (kDraw 
(dLook (nat_lit 0) [] [] (lkMove g0) p53 
(dLook (nat_lit 1) [] [] (lkMove g3) p54 
(dLook (nat_lit 2) [] [] (lkMove g8) p55 
(dLook (nat_lit 3) [] [] (lkBin .add g54 g55) p56 
(dLook (nat_lit 4) [] [] (lkMove g0) p57 
(dLook (nat_lit 5) [] [] (lkMove g3) p58 
(dLook (nat_lit 6) [] [] (lkMove g9) p59 
(dLook (nat_lit 7) [] [] (lkBin .add g58 g59) p60 
(dLook (nat_lit 8) [] [] (lkMove g0) p61 
(dLook (nat_lit 9) [] [] (lkMove g3) p62 
(dLook (nat_lit 10) [] [] (lkMove g9) p63 
(dLook (nat_lit 11) [] [] (lkBin .add g62 g63) p64 
(dLook (nat_lit 12) [] [] (lkIxSl (nat_lit 1) g61 g64) p65 
(dLook (nat_lit 13) [] [] (lkLoad1 g65) p66 
(dLook (nat_lit 14) [] [] (lkMove g0) p67 
(dLook (nat_lit 15) [] [] (lkMove g3) p68 
(dLook (nat_lit 16) [] [] (lkMove g8) p69 
(dLook (nat_lit 17) [] [] (lkBin .add g68 g69) p70 
(dLook (nat_lit 18) [] [] (lkIxSl (nat_lit 1) g67 g70) p71 
(dLook (nat_lit 19) [] [] (lkLoad1 g71) p72 
(dLook (nat_lit 20) [] [] (lkIxSl (nat_lit 1) g53 g56) p73 
(dTurn (nat_lit 21) [] [] true (xTurn (tnStore (nat_lit 1) g73 g66)) noDst 
(dLook (nat_lit 22) [] [(nat_lit 21)] (lkIxSl (nat_lit 1) g57 g60) p74 
(dTurn (nat_lit 23) [] [(nat_lit 21)] true (xTurn (tnStore (nat_lit 1) g74 g72)) noDst (dEnd [(nat_lit 53), (nat_lit 54), (nat_lit 55), (nat_lit 56), (nat_lit 57), (nat_lit 58), (nat_lit 59), (nat_lit 60), (nat_lit 61), (nat_lit 62), (nat_lit 63), (nat_lit 64), (nat_lit 65), (nat_lit 66), (nat_lit 67), (nat_lit 68), (nat_lit 69), (nat_lit 70), (nat_lit 71), (nat_lit 72), (nat_lit 73), (nat_lit 74)])))))))))))))))))))))))))) (oSet (xMove g9) p75 
(oSet (xMove g75) p8 
oEnd)))))))))))⟩
noncomputable def k329 : KFun := ⟨[rTmp (nat_lit 6) g6], (kSeq (oSet (xMove q16) p6 
oEnd) (kSeq (oSet (xMove g0) p7 
(oSet (xMove g1) p8 
(oSet (xLook (lkBin .sub g8 q11)) p9 
(oSet (xMove g1) p10 
(oSet (xMove g1) p11 
(oSet (xLook (lkBin .add g11 q11)) p12 
(oSet (xMove g2) p13 
(oSet (xCall q354 [g7, g9, g10, g12, g13]) p14 
(oSet (xMove g14) p6 
oEnd))))))))) kRet))⟩
def q356 : OpdF := kC (.func (.func (nat_lit 334)) ⟨[]⟩ ⟨[]⟩)
noncomputable def k330 : KFun := ⟨[rTmp (nat_lit 10) g10], (kSeq (oSet (xMove q16) p10 
oEnd) (kSeq (oSet (xMove g0) p12 
(oSet (xMove g1) p13 
(oSet (xMove g2) p14 
(oSet (xMove g4) p15 
(oSet (xCall q356 [g12, g13, g14, g15]) p16 
(oSet (xMove g16) p11 
(oSet (xLook (lkExtract (nat_lit 0) g11)) p17 
(oSet (xLook (lkExtract (nat_lit 1) g11)) p18 
(oSet (xMove g17) p1 
(oSet (xMove g18) p2 
oEnd)))))))))) (kSeq (oSet (xMove g0) p20 
(oSet (xMove g2) p21 
(oSet (xMove g3) p22 
(oSet (xMove g4) p23 
(oSet (xCall q356 [g20, g21, g22, g23]) p24 
(oSet (xMove g24) p19 
(oSet (xLook (lkExtract (nat_lit 0) g19)) p25 
(oSet (xLook (lkExtract (nat_lit 1) g19)) p26 
(oSet (xMove g25) p2 
(oSet (xMove g26) p3 
oEnd)))))))))) (kSeq (oSet (xMove g0) p28 
(oSet (xMove g1) p29 
(oSet (xMove g2) p30 
(oSet (xMove g4) p31 
(oSet (xCall q356 [g28, g29, g30, g31]) p32 
(oSet (xMove g32) p27 
(oSet (xLook (lkExtract (nat_lit 0) g27)) p33 
(oSet (xLook (lkExtract (nat_lit 1) g27)) p34 
(oSet (xMove g33) p1 
(oSet (xMove g34) p2 
oEnd)))))))))) (kSeq (oSet (xMove g2) p35 
(oSet (xMove g35) p10 
oEnd)) kRet)))))⟩
noncomputable def k331 : KFun := ⟨[rTmp (nat_lit 2) g2], (kSeq (oSet (xMove q0) p2 
oEnd) (kSeq (oSet (xMove g0) p3 
(oSet (xMove g0) p4 
(oSet (xLook (lkEq true .str g3 g4)) p5 
(oSet (xMove g5) p2 
oEnd)))) kRet))⟩
noncomputable def k334 : KFun := ⟨[rTmp (nat_lit 8) g8, rTmp (nat_lit 9) g9], (kSeq (oSet (xMove q16) p8 
(oSet (xMove q16) p9 
oEnd)) (kSeq (kSeq (kDraw 
(dLook (nat_lit 0) [] [] (lkMove g0) p10 
(dLook (nat_lit 1) [] [] (lkMove g2) p11 
(dLook (nat_lit 2) [] [] (lkIxSl (nat_lit 1) g10 g11) p12 
(dLook (nat_lit 3) [] [] (lkLoad1 g12) p13 
(dLook (nat_lit 4) [] [] (lkMove g0) p14 
(dLook (nat_lit 5) [] [] (lkMove g1) p15 
(dLook (nat_lit 6) [] [] (lkIxSl (nat_lit 1) g14 g15) p16 
(dLook (nat_lit 7) [] [] (lkLoad1 g16) p17 
(dTurn (nat_lit 8) [] [] true (xCall q347 [g13, g17]) p18 (dEnd [(nat_lit 10), (nat_lit 11), (nat_lit 12), (nat_lit 13), (nat_lit 14), (nat_lit 15), (nat_lit 16), (nat_lit 17), (nat_lit 18)]))))))))))) (kCond g18 (kSeq (oSet (xMove g3) p19 
(oSet (xNil g19) p20 
(oSet (xLook (lkLoad1 g20)) p21 
(oSet (xLook (lkBin .add g21 q11)) p22 
(oSet (xNil g19) p23 
(oDo (xTurn (tnStore (nat_lit 1) g23 g22)) 
oEnd)))))) (kSeq (oSet (xMove g2) p24 
(oSet (xMove g1) p25 
(oSet (xMove g24) p8 
(oSet (xMove g25) p9 
oEnd)))) kRet)) kSkip)) (kSeq (oSet (xMove g1) p26 
(oSet (xMove g2) p27 
(oSet (xMove g26) p8 
(oSet (xMove g27) p9 
oEnd)))) kRet)))⟩
noncomputable def k366 : KFun := ⟨[rTmp (nat_lit 2) g2], (kSeq (oSet (xTurn (tnBox g0)) p1 
(oSet (xMove q50) p2 
oEnd)) (kSeq (kSeq (oSet (xLook (lkFieldAddr (nat_lit 0) g1)) p3 
(oSet (xLook (lkLoad1 g3)) p4 
(oSet (xLook (lkLen .sl g4)) p5 
(oSet (xLook (lkEq false .int g5 q16)) p6 
oEnd)))) (kCond g6 (kSeq (oSet (xMove q50) p2 
oEnd) kRet) kSkip)) (kSeq (oSet (xLook (lkFieldAddr (nat_lit 0) g1)) p7 
(oSet (xLook (lkLoad1 g7)) p8 
(oSet (xLook (lkIxSl (nat_lit 1) g8 q16)) p9 
(oSet (xLook (lkLoad1 g9)) p10 
(oSet (xMove g10) p2 
oEnd))))) kRet)))⟩
noncomputable def k368 : KFun := ⟨[rTmp (nat_lit 2) g2], (kSeq (oSet (xTurn (tnBox g0)) p1 
(oSet (xMove q16) p2 
oEnd)) (kSeq (oSet (xLook (lkFieldAddr (nat_lit 1) g1)) p3 
(oSet (xLook (lkLoad1 g3)) p4 
(oSet (xLook (lkLen .sl g4)) p5 
(oSet (xMove g5) p2 
oEnd)))) kRet))⟩
noncomputable def k369 : KFun := ⟨[rTmp (nat_lit 2) g2], (kSeq (oSet (xTurn (tnBox g0)) p1 
(oSet (xMove q0) p2 
oEnd)) (kSeq (oSet (xLook (lkFieldAddr (nat_lit 1) g1)) p3 
(oSet (xLook (lkLoad1 g3)) p4 
(oSet (xCall q121 [g4]) p5 
(oSet (xLook (lkEq false .int g5 q16)) p6 
(oSet (xMove g6) p2 
oEnd))))) kRet))⟩
noncomputable def k370 : KFun := ⟨[rTmp (nat_lit 2) g2], (kSeq (oSet (xTurn (tnBox g0)) p1 
(oSet (xMove q16) p2 
oEnd)) (kSeq (oSet (xMove q16) p3 
oEnd) (kSeq (kSeq (oSet (xLook (lkFieldAddr (nat_lit 1) g1)) p6 
(oSet (xLook (lkLoad1 g6)) p7 
(oSet (xLook (lkLen .sl g7)) p8 
(oSet (xMove q16) p9 
oEnd)))) (kBlock (nat_lit 0) (kLoop (kSeq (oSet (xLook (lkBin .lss g9 g8)) p10 
oEnd) (kSeq (kCond g10 kSkip (kExit (nat_lit 0))) (kSeq (kBlock (nat_lit 1) (kSeq (oSet (xLook (lkIxSl (nat_lit 34) g7 g9)) p11 
(oSet (xLook (lkLoadN (nat_lit 34) g11)) p12 
(oSet (xTurn (tnAlloc q184)) p5 
(oDo (xTurn (tnStore (nat_lit 34) g5 g12)) 
oEnd)))) (oSet (xMove g3) p13 
(oSet (xLook (lkFieldAddr (nat_lit 33) g5)) p14 
(oSet (xLook (lkLoad1 g14)) p15 
(oSet (xLook (lkBin .add g13 g15)) p16 
(oSet (xMove g16) p3 
oEnd))))))) (oSet (xLook (lkBin .add g9 q11)) p17 
(oSet (xMove g17) p9 
oEnd)))))))) (kSeq (oSet (xMove g3) p18 
(oSet (xMove g18) p2 
oEnd)) kRet))))⟩
noncomputable def k371d0 : KD := 
(dLook (nat_lit 29) [] [(nat_lit 2)] (lkPick g38 q2 g41) p42 (dEnd [(nat_lit 13), (nat_lit 14), (nat_lit 15), (nat_lit 16), (nat_lit 17), (nat_lit 18), (nat_lit 19), (nat_lit 20), (nat_lit 21), (nat_lit 22), (nat_lit 23), (nat_lit 24), (nat_lit 25), (nat_lit 26), (nat_lit 27), (nat_lit 28), (nat_lit 29), (nat_lit 30), (nat_lit 31), (nat_lit 32), (nat_lit 33), (nat_lit 34), (nat_lit 35), (nat_lit 36), (nat_lit 37), (nat_lit 38), (nat_lit 39), (nat_lit 40), (nat_lit 41), (nat_lit 42)]))
noncomputable def k371d1 : KD := 
(dIf [(nat_lit 2)] (wantF g38) p41 (dLook (nat_lit 28) [] [(nat_lit 2)] (lkBin .gtr g40 q39) p41 k371d0) k371d0)
noncomputable def k371d2 : KD := 
(dIf [(nat_lit 2)] (wantF g38) p40 (dLook (nat_lit 27) [] [(nat_lit 2)] (lkLoad1 g39) p40 k371d1) k371d1)
noncomputable def k371d3 : KD := 
(dLook (nat_lit 24) [] [(nat_lit 2)] (lkPick g33 q2 g36) p37 
(dLook (nat_lit 25) [] [(nat_lit 2)] (lkMove g37) p38 
(dIf [(nat_lit 2)] (wantF g38) p39 (dLook (nat_lit 26) [] [(nat_lit 2)] (lkFieldAddr (nat_lit 33) g4) p39 k371d2) k371d2)))
noncomputable def k371d4 : KD := 
(dIf [(nat_lit 2)] (wantF g33) p36 (dLook (nat_lit 23) [] [(nat_lit 2)] (lkBin .lss g35 q11) p36 k371d3) k371d3)
noncomputable def k371d5 : KD := 
(dIf [(nat_lit 2)] (wantF g33) p35 (dLook (nat_lit 22) [] [(nat_lit 2)] (lkLoad1 g34) p35 k371d4) k371d4)
noncomputable def k371d6 : KD := 
(dLook (nat_lit 19) [] [(nat_lit 2)] (lkPick g17 q2 g31) p32 
(dLook (nat_lit 20) [] [(nat_lit 2)] (lkMove g32) p33 
(dIf [(nat_lit 2)] (wantF g33) p34 (dLook (nat_lit 21) [] [(nat_lit 2)] (lkFieldAddr (nat_lit 33) g4) p34 k371d5) k371d5)))
noncomputable def k371d7 : KD := 
(dIf [(nat_lit 2)] (wantF g17) p31 (dLook (nat_lit 18) [] [(nat_lit 2)] (lkPick g20 g30 q0) p31 k371d6) k371d6)
noncomputable def k371d8 : KD := 
(dIf [(nat_lit 2)] (wantT g20) p30 (dLook (nat_lit 17) [] [(nat_lit 2)] (lkBin .leq g22 g29) p30 k371d7) k371d7)
noncomputable def k371d9 : KD := 
(dIf [(nat_lit 2)] (wantT g20) p29 (dLook (nat_lit 16) [] [(nat_lit 2)] (lkLoad1 g28) p29 k371d8) k371d8)
noncomputable def k371d10 : KD := 
(dIf [(nat_lit 2)] (wantT g20) p28 (dLook (nat_lit 15) [] [(nat_lit 2)] (lkFieldAddr (nat_lit 0) g27) p28 k371d9) k371d9)
noncomputable def k371d11 : KD := 
(dIf [(nat_lit 2)] (wantT g20) p27 (dLook (nat_lit 14) [] [(nat_lit 2)] (lkIxSl (nat_lit 34) g24 g26) p27 k371d10) k371d10)
noncomputable def k371d12 : KD := 
(dIf [(nat_lit 2)] (wantT g20) p26 (dLook (nat_lit 13) [] [(nat_lit 2)] (lkBin .sub g25 q11) p26 k371d11) k371d11)
noncomputable def k371d13 : KD := 
(dIf [(nat_lit 2)] (wantT g20) p25 (dLook (nat_lit 12) [] [(nat_lit 2)] (lkMove g3) p25 k371d12) k371d12)
noncomputable def k371d14 : KD := 
(dIf [(nat_lit 2)] (wantT g20) p24 (dLook (nat_lit 11) [] [(nat_lit 2)] (lkLoad1 g23) p24 k371d13) k371d13)
noncomputable def k371d15 : KD := 
(dIf [(nat_lit 2)] (wantT g20) p23 (dLook (nat_lit 10) [] [(nat_lit 2)] (lkFieldAddr (nat_lit 1) g1) p23 k371d14) k371d14)
noncomputable def k371d16 : KD := 
(dIf [(nat_lit 2)] (wantT g20) p22 (dLook (nat_lit 9) [] [(nat_lit 2)] (lkLoad1 g21) p22 k371d15) k371d15)
noncomputable def k371d17 : KD := 
(dIf [(nat_lit 2)] (wantT g20) p21 (dLook (nat_lit 8) [] [(nat_lit 2)] (lkFieldAddr (nat_lit 0) g4) p21 k371d16) k371d16)
noncomputable def k371d18 : KD := 
(dIf [(nat_lit 2)] (wantF g17) p20 (dLook (nat_lit 7) [] [(nat_lit 2)] (lkMove g19) p20 k371d17) k371d17)
noncomputable def k371d19 : KD := 
(dIf [(nat_lit 2)] (wantF g17) p19 (dLook (nat_lit 6) [] [(nat_lit 2)] (lkBin .gtr g18 q16) p19 k371d18) k371d18)
def q357 : OpdF := kC (.func (.func (nat_lit 370)) ⟨[]⟩ ⟨[]⟩)
noncomputable def k371 : KFun := ⟨[rTmp (nat_lit 2) g2], (kSeq (oSet (xTurn (tnBox g0)) p1 
(oSet (xMove q0) p2 
oEnd)) (kSeq (kSeq (oSet (xLook (lkFieldAddr (nat_lit 1) g1)) p5 
(oSet (xLook (lkLoad1 g5)) p6 
(oSet (xLook (lkLen .sl g6)) p7 
(oSet (xMove q16) p8 
oEnd)))) (kBlock (nat_lit 0) (kLoop (kSeq (oSet (xLook (lkBin .lss g8 g7)) p9 
oEnd) (kSeq (kCond g9 kSkip (kExit (nat_lit 0))) (kSeq (kBlock (nat_lit 1) (kSeq (oSet (xMove g8) p10 
(oSet (xLook (lkIxSl (nat_lit 34) g6 g8)) p11 
(oSet (xLook (lkLoadN (nat_lit 34) g11)) p12 
(oSet (xTurn (tnAlloc q184)) p4 
(oSet (xMove g10) p3 
(oDo (xTurn (tnStore (nat_lit 34) g4 g12)) 
oEnd)))))) (kSeq (kDraw 
(dLook (nat_lit 0) [] [] (lkFieldAddr (nat_lit 0) g4) p13 
(dLook (nat_lit 1) [] [] (lkLoad1 g13) p14 
(dTurn (nat_lit 2) [] [] true (xCall q120 [g14]) p15 
(dLook (nat_lit 3) [] [(nat_lit 2)] (lkUn .not g15) p16 
(dLook (nat_lit 4) [] [(nat_lit 2)] (lkMove g16) p17 
(dIf [(nat_lit 2)] (wantF g17) p18 (dLook (nat_lit 5) [] [(nat_lit 2)] (lkMove g3) p18 k371d19) k371d19))))))) (kCond g42 (kSeq (oSet (xMove q0) p2 
oEnd) kRet) kSkip)))) (oSet (xLook (lkBin .add g8 q11)) p43 
(oSet (xMove g43) p8 
oEnd)))))))) (kSeq (oSet (xLook (lkFieldAddr (nat_lit 1) g1)) p44 
(oSet (xLook (lkLoad1 g44)) p45 
(oSet (xLook (lkLen .sl g45)) p46 
(oSet (xLook (lkBin .gtr g46 q16)) p47 
(oSet (xMove g47) p48 
(oSetIf (wantT g48) (xLook (lkLoadN (nat_lit 2) g1)) p49 
(oSetIf (wantT g48) (xCall q357 [g49]) p50 
(oSetIf (wantT g48) (xLook (lkBin .leq g50 q39)) p51 
(oSet (xLook (lkPick g48 g51 q0)) p52 
(oSet (xMove g52) p2 
oEnd)))))))))) kRet)))⟩
noncomputable def tab : Tr KFun := (.node none (.node none (.node none (.node (some k7) (.node none (.node none (.node none (.node none (.node (some k255) .nil .nil) .nil) .nil) (.node none (.node (some k159) (.node (some k287) .nil .nil) .nil) (.node (some k223) .nil .nil))) (.node (some k47) (.node (some k79) (.node (some k143) (.node (some k271) .nil .nil) .nil) (.node (some k207) .nil .nil)) (.node (some k111) (.node (some k175) (.node (some k303) .nil .nil) .nil) (.node (some k239) .nil .nil)))) (.node (some k23) (.node none (.node none (.node none (.node (some k263) .nil .nil) .nil) (.node none (.node (some k327) .nil .nil) .nil)) (.node (some k103) (.node none (.node (some k295) .nil .nil) .nil) (.node (some k231) .nil .nil))) (.node none (.node (some k87) (.node (some k151) (.node (some k279) .nil .nil) .nil) .nil) (.node (some k119) (.node (some k183) (.node (some k311) .nil .nil) .nil) .nil)))) (.node none (.node none (.node none .nil (.node (some k99) (.node (some k163) .nil .nil) (.node (some k227) .nil .nil))) (.node (some k51) (.node none (.node none (.node (some k275) .nil .nil) .nil) .nil) (.node (some k115) (.node (some k179) (.node (some k307) .nil .nil) .nil) (.node (some k243) (.node (some k371) .nil .nil) .nil)))) (.node none (.node none (.node none (.node (some k139) .nil .nil) (.node (some k203) (.node (some k331) .nil .nil) .nil)) (.node none (.node (some k171) (.node (some k299) .nil .nil) .nil) (.node (some k235) .nil .nil))) (.node none (.node (some k91) (.node (some k155) (.node (some k283) .nil .nil) .nil) (.node (some k219) .nil .nil)) (.node none (.node none (.node (some k315) .nil .nil) .nil) .nil))))) (.node none (.node none (.node none (.node none (.node none (.node none (.node (some k257) .nil .nil) .nil) .nil) (.node (some k97) (.node (some k161) .nil .nil) (.node (some k225) .nil .nil))) (.node (some k49) (.node (some k81) (.node (some k145) (.node (some k273) .nil .nil) .nil) (.node (some k209) .nil .nil)) (.node none (.node (some k177) .nil .nil) (.node (some k241) (.node (some k369) .nil .nil) .nil)))) (.node none (.node none (.node none .nil (.node none (.node (some k329) .nil .nil) .nil)) (.node none (.node (some k169) (.node (some k297) .nil .nil) .nil) (.node (some k233) .nil .nil))) (.node none (.node (some k89) (.node (some k153) (.node (some k281) .nil .nil) .nil) .nil) (.node none (.node none (.node (some k313) .nil .nil) .nil) .nil)))) (.node none (.node none (.node none (.node none (.node none (.node (some k261) .nil .nil) .nil) .nil) (.node none (.node (some k165) (.node (some k293) .nil .nil) .nil) (.node (some k229) .nil .nil))) (.node (some k53) (.node (some k85) (.node none (.node (some k277) .nil .nil) .nil) .nil) (.node (some k117) (.node none (.node (some k309) .nil .nil) .nil) .nil))) (.node none (.node (some k45) (.node (some k77) (.node (some k141) (.node (some k269) .nil .nil) .nil) (.node (some k205) .nil .nil)) (.node none (.node (some k173) (.node (some k301) .nil .nil) .nil) (.node (some k237) .nil .nil))) (.node (some k61) (.node (some k93) (.node (some k157) (.node (some k285) .nil .nil) .nil) (.node (some k221) .nil .nil)) (.node none (.node none (.node (some k317) .nil .nil) .nil) .nil)))))) (.node none (.node none (.node none (.node none (.node none .nil (.node (some k96) (.node (some k160) (.node (some k288) .nil .nil) .nil) (.node (some k224) .nil .nil))) (.node (some k48) (.node none (.node (some k144) (.node (some k272) .nil .nil) .nil) (.node (some k208) .nil .nil)) (.node none (.node (some k176) (.node (some k304) .nil .nil) .nil) (.node (some k240) (.node (some k368) .nil .nil) .nil)))) (.node none (.node none (.node (some k72) (.node none (.node (some k264) .nil .nil) .nil) (.node none (.node (some k328) .nil .nil) .nil)) (.node (some k104) (.node none (.node (some k296) .nil .nil) .nil) .nil)) (.node none (.node (some k88) (.node (some k152) (.node (some k280) .nil .nil) .nil) .nil) (.node (some k120) (.node none (.node (some k312) .nil .nil) .nil) .nil)))) (.node none (.node (some k20) (.node none .nil (.node (some k100) (.node (some k164) .nil .nil) (.node (some k228) .nil .nil))) (.node (some k52) (.node none (.node none (.node (some k276) .nil .nil) .nil) .nil) (.node (some k116) (.node (some k180) (.node (some k308) .nil .nil) .nil) .nil))) (.node (some k28) (.node (some k44) (.node (some k76) (.node (some k140) .nil .nil) (.node (some k204) .nil .nil)) (.node none (.node (some k172) (.node (some k300) .nil .nil) .nil) (.node (some k236) .nil .nil))) (.node none (.node (some k92) (.node (some k156) (.node (some k284) .nil .nil) .nil) (.node (some k220) .nil .nil)) (.node none (.node none (.node (some k316) .nil .nil) .nil) .nil))))) (.node none (.node none (.node none (.node none (.node none (.node none (.node (some k258) .nil .nil) .nil) .nil) (.node none (.node (some k162) (.node (some k290) .nil .nil) .nil) (.node (some k226) .nil .nil))) (.node (some k50) (.node (some k82) (.node none (.node (some k274) .nil .nil) .nil) (.node (some k210) .nil .nil)) (.node none (.node (some k178) (.node (some k306) .nil .nil) .nil) (.node (some k242) (.node (some k370) .nil .nil) .nil)))) (.node (some k26) (.node none (.node none (.node (some k138) .nil .nil) (.node none (.node (some k330) .nil .nil) .nil)) (.node (some k106) (.node (some k170) (.node (some k298) .nil .nil) .nil) (.node (some k234) .nil .nil))) (.node none (.node (some k90) (.node (some k154) (.node (some k282) .nil .nil) .nil) (.node (some k218) .nil .nil)) (.node none (.node none (.node (some k314) .nil .nil) .nil) .nil)))) (.node none (.node none (.node none (.node none (.node (some k134) (.node (some k262) .nil .nil) .nil) (.node none (.node (some k326) .nil .nil) .nil)) (.node none (.node (some k166) (.node (some k294) .nil .nil) .nil) (.node (some k230) .nil .nil))) (.node none (.node (some k86) (.node (some k150) (.node (some k278) .nil .nil) .nil) .nil) (.node (some k118) (.node none (.node (some k310) .nil .nil) .nil) .nil))) (.node (some k30) (.node (some k46) (.node (some k78) (.node (some k142) .nil .nil) (.node (some k206) (.node (some k334) .nil .nil) .nil)) (.node none (.node (some k174) (.node (some k302) .nil .nil) .nil) (.node (some k238) (.node (some k366) .nil .nil) .nil))) (.node none (.node none (.node (some k158) (.node (some k286) .nil .nil) .nil) (.node (some k222) .nil .nil)) (.node none (.node none (.node (some k318) .nil .nil) .nil) .nil)))))))
end Go.Proofs.YtlajogneffpnlaaGreat.Eng
