/-
  The functions that the law reaches, as the abstract machine runs them, printed by program. No condition.
-/
import Derived.Test.YtdgipehldjnfcaaGreatDoorS0
namespace Go.Proofs.YtdgipehldjnfcaaGreatDoor.Eng
open Go Go.Eng
set_option linter.unusedVariables false
set_option maxRecDepth 100000

def q339 : CCode := (.block (nat_lit 1) (.region false [⟨none, (some (nat_lit 8)), (.load1 (.tmp (nat_lit 2))), (nat_lit 0), [], []⟩,
⟨none, (some (nat_lit 9)), (.move (.tmp (nat_lit 5))), (nat_lit 1), [], []⟩,
⟨none, (some (nat_lit 10)), (.buildSlice [(.string ⟨⟨[]⟩⟩)] [⟨(nat_lit 0), (nat_lit 1), (.tmp (nat_lit 9))⟩] (nat_lit 1)), (nat_lit 2), [], []⟩,
⟨none, (some (nat_lit 11)), (.append (nat_lit 1) (.tmp (nat_lit 8)) (.tmp (nat_lit 10))), (nat_lit 3), [], []⟩,
⟨none, none, (.store (nat_lit 1) (.tmp (nat_lit 2)) (.tmp (nat_lit 11))), (nat_lit 4), [], []⟩]))
noncomputable def k201 : KFun := ⟨[rTmp (nat_lit 4) g4], (kSeq (oSet (xTurn (tnBox g0)) p2 
(oSet (xMove q12) p4 
oEnd)) (kSeq (kSeq (oSet (xMove g1) p6 
oEnd) (kBlock (nat_lit 0) (kRange g6 [(nat_lit 7)] q338 q339))) (kSeq (oSet (xLook (lkLoad1 g2)) p12 
(oSet (xMove g12) p4 
oEnd)) kRet)))⟩
def q340 : OpdF := kC (.func (.func (nat_lit 228)) ⟨[]⟩ ⟨[]⟩)
def q341 : OpdF := kC (.func (.func (nat_lit 229)) ⟨[]⟩ ⟨[]⟩)
def q342 : OpdF := kC (.func (.func (nat_lit 230)) ⟨[]⟩ ⟨[]⟩)
def q343 : OpdF := kC (.func (.func (nat_lit 231)) ⟨[]⟩ ⟨[]⟩)
def q344 : OpdF := kC (.func (.func (nat_lit 232)) ⟨[]⟩ ⟨[]⟩)
def q345 : OpdF := kC (.func (.func (nat_lit 233)) ⟨[]⟩ ⟨[]⟩)
noncomputable def k202d0 : KD := 
(dLook (nat_lit 14) [] [(nat_lit 12)] (lkPick g75 g86 q0) p87 (dEnd [(nat_lit 73), (nat_lit 74), (nat_lit 75), (nat_lit 76), (nat_lit 77), (nat_lit 78), (nat_lit 79), (nat_lit 80), (nat_lit 81), (nat_lit 82), (nat_lit 83), (nat_lit 84), (nat_lit 85), (nat_lit 86), (nat_lit 87)]))
def q346 : OpdF := kC (.func (.func (nat_lit 234)) ⟨[]⟩ ⟨[]⟩)
noncomputable def k202d1 : KD := 
(dIf [(nat_lit 12)] (wantT g75) p86 (dLook (nat_lit 13) [] [(nat_lit 12)] (lkUn .not g85) p86 k202d0) k202d0)
noncomputable def k202d2 : KD := 
(dIf [] (wantT g75) p85 (dTurn (nat_lit 12) [] [] true (xCall q346 [g80, g84]) p85 k202d1) k202d1)
noncomputable def k202d3 : KD := 
(dIf [] (wantT g75) p84 (dLook (nat_lit 11) [] [] (lkLoad1 g83) p84 k202d2) k202d2)
noncomputable def k202d4 : KD := 
(dIf [] (wantT g75) p83 (dLook (nat_lit 10) [] [] (lkIxSl (nat_lit 1) g81 g82) p83 k202d3) k202d3)
noncomputable def k202d5 : KD := 
(dIf [] (wantT g75) p82 (dLook (nat_lit 9) [] [] (lkMove g11) p82 k202d4) k202d4)
noncomputable def k202d6 : KD := 
(dIf [] (wantT g75) p81 (dLook (nat_lit 8) [] [] (lkMove g0) p81 k202d5) k202d5)
noncomputable def k202d7 : KD := 
(dIf [] (wantT g75) p80 (dLook (nat_lit 7) [] [] (lkLoad1 g79) p80 k202d6) k202d6)
noncomputable def k202d8 : KD := 
(dIf [] (wantT g75) p79 (dLook (nat_lit 6) [] [] (lkIxSl (nat_lit 1) g76 g78) p79 k202d7) k202d7)
noncomputable def k202d9 : KD := 
(dIf [] (wantT g75) p78 (dLook (nat_lit 5) [] [] (lkBin .sub g77 q16) p78 k202d8) k202d8)
noncomputable def k202d10 : KD := 
(dIf [] (wantT g75) p77 (dLook (nat_lit 4) [] [] (lkMove g1) p77 k202d9) k202d9)
def q347 : OpdF := kC (.func (.func (nat_lit 235)) ⟨[]⟩ ⟨[]⟩)
def q348 : OpdF := kC (.func (.func (nat_lit 236)) ⟨[]⟩ ⟨[]⟩)
noncomputable def k202 : KFun := ⟨[], (kSeq (oSet (xMove q30) p8 
oEnd) (kSeq (oSet (xMove q30) p9 
oEnd) (kBlock (nat_lit 0) (kLoop (kBlock (nat_lit 1) (kSeq (oSet (xMove g2) p19 
(oSet (xMove g1) p20 
(oSet (xLook (lkBin .sub g19 g20)) p21 
(oSet (xMove g21) p10 
oEnd)))) (kSeq (kSeq (oSet (xMove g10) p22 
(oSet (xLook (lkBin .leq g22 q155)) p23 
oEnd)) (kCond g23 (kSeq (oSet (xMove g0) p24 
(oSet (xMove g1) p25 
(oSet (xMove g2) p26 
(oSet (xCall q340 [g24, g25, g26]) p27 
oEnd)))) kRet) kSkip)) (kSeq (kSeq (oSet (xMove g3) p28 
(oSet (xLook (lkEq false .int g28 q10)) p29 
oEnd)) (kCond g29 (kSeq (oSet (xMove g0) p30 
(oSet (xMove g1) p31 
(oSet (xMove g2) p32 
(oSet (xCall q341 [g30, g31, g32]) p33 
oEnd)))) kRet) kSkip)) (kSeq (kSeq (oSet (xMove g8) p34 
(oSet (xLook (lkUn .not g34)) p35 
oEnd)) (kCond g35 (kSeq (oSet (xMove g0) p36 
(oSet (xMove g1) p37 
(oSet (xMove g2) p38 
(oSet (xCall q342 [g36, g37, g38]) p39 
oEnd)))) (oSet (xMove g3) p40 
(oSet (xLook (lkBin .sub g40 q16)) p41 
(oSet (xMove g41) p3 
oEnd)))) kSkip)) (kSeq (oSet (xMove g0) p43 
(oSet (xMove g1) p44 
(oSet (xMove g2) p45 
(oSet (xCall q343 [g43, g44, g45]) p46 
(oSet (xMove g46) p42 
(oSet (xLook (lkExtract (nat_lit 0) g42)) p47 
(oSet (xLook (lkExtract (nat_lit 1) g42)) p48 
(oSet (xMove g47) p11 
(oSet (xMove g48) p12 
oEnd))))))))) (kSeq (kSeq (oSet (xMove g12) p49 
(oSet (xLook (lkEq false .int g49 q18)) p50 
oEnd)) (kCond g50 (kSeq (oSet (xMove g0) p51 
(oSet (xMove g1) p52 
(oSet (xMove g2) p53 
(oSet (xCall q344 [g51, g52, g53]) p54 
oEnd)))) (kSeq (oSet (xMove g2) p55 
(oSet (xLook (lkBin .sub g55 q16)) p56 
(oSet (xMove g11) p57 
(oSet (xMove g1) p58 
(oSet (xLook (lkBin .sub g57 g58)) p59 
(oSet (xLook (lkBin .sub g56 g59)) p60 
(oSet (xMove g60) p11 
oEnd))))))) (oSet (xMove q16) p12 
oEnd))) kSkip)) (kSeq (kSeq (oSet (xMove g8) p61 
(oSet (xMove g61) p62 
(oSetIf (wantT g62) (xMove g9) p63 
(oSet (xLook (lkPick g62 g63 q0)) p64 
(oSet (xMove g64) p65 
(oSetIf (wantT g65) (xMove g12) p66 
(oSetIf (wantT g65) (xLook (lkEq false .int g66 q16)) p67 
(oSet (xLook (lkPick g65 g67 q0)) p68 
oEnd)))))))) (kCond g68 (kSeq (oSet (xMove g0) p69 
(oSet (xMove g1) p70 
(oSet (xMove g2) p71 
(oSet (xCall q345 [g69, g70, g71]) p72 
oEnd)))) (kCond g72 kRet kSkip)) kSkip)) (kSeq (kSeq (kDraw 
(dLook (nat_lit 0) [] [] (lkMove g1) p73 
(dLook (nat_lit 1) [] [] (lkBin .gtr g73 q10) p74 
(dLook (nat_lit 2) [] [] (lkMove g74) p75 
(dIf [] (wantT g75) p76 (dLook (nat_lit 3) [] [] (lkMove g0) p76 k202d10) k202d10))))) (kCond g87 (kSeq (oSet (xMove g0) p88 
(oSet (xMove g1) p89 
(oSet (xMove g2) p90 
(oSet (xMove g11) p91 
(oSet (xCall q347 [g88, g89, g90, g91]) p92 
(oSet (xMove g92) p13 
oEnd)))))) (kSeq (oSet (xMove g13) p93 
(oSet (xMove g93) p1 
oEnd)) (kExit (nat_lit 1)))) kSkip)) (kSeq (oSet (xMove g0) p95 
(oSet (xMove g1) p96 
(oSet (xMove g2) p97 
(oSet (xMove g11) p98 
(oSet (xCall q348 [g95, g96, g97, g98]) p99 
(oSet (xMove g99) p94 
(oSet (xLook (lkExtract (nat_lit 0) g94)) p100 
(oSet (xLook (lkExtract (nat_lit 1) g94)) p101 
(oSet (xMove g100) p14 
(oSet (xMove g101) p15 
oEnd)))))))))) (kSeq (oSet (xMove g15) p102 
(oSet (xMove g102) p9 
oEnd)) (kSeq (oSet (xMove g14) p103 
(oSet (xMove g1) p104 
(oSet (xLook (lkBin .sub g103 g104)) p105 
(oSet (xMove g2) p106 
(oSet (xMove g14) p107 
(oSet (xLook (lkBin .sub g106 g107)) p108 
(oSet (xMove g105) p16 
(oSet (xMove g108) p17 
oEnd)))))))) (kSeq (oSet (xMove g10) p109 
(oSet (xLook (lkBin .quo g109 q45)) p110 
(oSet (xMove g110) p18 
oEnd))) (kSeq (oSet (xMove g16) p111 
(oSet (xMove g17) p112 
(oSet (xLook (lkBin .lss g111 g112)) p113 
oEnd))) (kCond g113 (kSeq (oSet (xMove g16) p114 
(oSet (xMove g18) p115 
(oSet (xLook (lkBin .geq g114 g115)) p116 
(oSet (xMove g116) p8 
oEnd)))) (kSeq (oSet (xMove g0) p117 
(oSet (xMove g1) p118 
(oSet (xMove g14) p119 
(oSet (xMove g3) p120 
(oSet (xCall q296 [g117, g118, g119, g120]) p121 
oEnd))))) (oSet (xMove g14) p122 
(oSet (xLook (lkBin .add g122 q16)) p123 
(oSet (xMove g123) p1 
oEnd))))) (kSeq (oSet (xMove g17) p124 
(oSet (xMove g18) p125 
(oSet (xLook (lkBin .geq g124 g125)) p126 
(oSet (xMove g126) p8 
oEnd)))) (kSeq (oSet (xMove g0) p127 
(oSet (xMove g14) p128 
(oSet (xLook (lkBin .add g128 q16)) p129 
(oSet (xMove g2) p130 
(oSet (xMove g3) p131 
(oSet (xCall q296 [g127, g129, g130, g131]) p132 
oEnd)))))) (oSet (xMove g14) p133 
(oSet (xMove g133) p2 
oEnd)))))))))))))))))))))))⟩
def q349 : OpdF := kC (.func (.func (nat_lit 237)) ⟨[]⟩ ⟨[]⟩)
def q350 : OpdF := kC (.func (.func (nat_lit 238)) ⟨[]⟩ ⟨[]⟩)
noncomputable def k203 : KFun := ⟨[rTmp (nat_lit 2) g2], (kSeq (oSet (xMove q10) p2 
oEnd) (kSeq (kCond q0 (kSeq (oSet (xMove g0) p3 
(oSet (xLook (lkIntTo .u32 g3)) p4 
(oSet (xCall q349 [g4]) p5 
(oSet (xMove g5) p2 
oEnd)))) kRet) kSkip) (kSeq (oSet (xMove g0) p6 
(oSet (xCall q350 [g6]) p7 
(oSet (xMove g7) p2 
oEnd))) kRet)))⟩
def q357 : OpdF := kC (.int .u64 (.ofNat (nat_lit 8)))
def q360 : OpdF := kC (.func (.func (nat_lit 243)) ⟨[]⟩ ⟨[]⟩)
noncomputable def k209 : KFun := ⟨[rTmp (nat_lit 2) g2], (kSeq (oSet (xMove q33) p2 
oEnd) (kSeq (oSet (xMove g0) p3 
(oSet (xCall q360 [g3, q103]) p4 
(oSet (xMove g4) p2 
oEnd))) kRet))⟩
noncomputable def k215 : KFun := ⟨[], (kSeq (oSet xRecover p4 
oEnd) (kBlock (nat_lit 0) (kSeq (oSet (xLook (lkEq false .ifaceNil g4 q152)) p6 
oEnd) (kCond g6 (oSet (xMove g4) p1 
oEnd) (kSeq (oSet (xLook (lkAssertT (nat_lit 314) (.agg ⟨[(.int .i64 (.ofNat (nat_lit 0)))]⟩) true g4)) p7 
(oSet (xLook (lkExtract (nat_lit 1) g7)) p8 
(oSet (xLook (lkExtract (nat_lit 0) g7)) p9 
oEnd))) (kCond g8 (kSeq (oSet (xTurn (tnAlloc q9)) p2 
(oDo (xTurn (tnStore (nat_lit 1) g2 g9)) 
oEnd)) (oSet (xLook (lkLoad1 g0)) p10 
(oSet (xLook (lkFieldAddr (nat_lit 0) g2)) p11 
(oSet (xLook (lkLoad1 g11)) p12 
(oSet (xNil g10) p13 
(oSet (xLook (lkFieldAddr (nat_lit 11) g13)) p14 
(oSet (xLook (lkFieldAddr (nat_lit 0) g14)) p15 
(oDo (xTurn (tnStore (nat_lit 1) g15 g12)) 
oEnd)))))))) (kSeq (oSet (xMove g4) p3 
oEnd) (oSet (xMove g3) p5 
(oDo (xPanic g5) 
oEnd)))))))))⟩
def q365 : OpdF := kC (.func (.func (nat_lit 245)) ⟨[]⟩ ⟨[]⟩)
def q366 : OpdF := kC (.func (.func (nat_lit 246)) ⟨[]⟩ ⟨[]⟩)
def q367 : OpdF := kC (.func (.func (nat_lit 247)) ⟨[]⟩ ⟨[]⟩)
def q368 : OpdF := kC (.func (.func (nat_lit 248)) ⟨[]⟩ ⟨[]⟩)
def q369 : OpdF := kC (.func (.func (nat_lit 249)) ⟨[]⟩ ⟨[]⟩)
def q370 : OpdF := kC (.func (.func (nat_lit 250)) ⟨[]⟩ ⟨[]⟩)
def q371 : OpdF := kC (.func (.func (nat_lit 251)) ⟨[]⟩ ⟨[]⟩)
def q372 : OpdF := kC (.func (.func (nat_lit 252)) ⟨[]⟩ ⟨[]⟩)
def q373 : OpdF := kC (.func (.func (nat_lit 253)) ⟨[]⟩ ⟨[]⟩)
def q374 : OpdF := kC (.func (.func (nat_lit 254)) ⟨[]⟩ ⟨[]⟩)
def q375 : OpdF := kC (.func (.func (nat_lit 255)) ⟨[]⟩ ⟨[]⟩)
def q376 : OpdF := kC (.func (.func (nat_lit 256)) ⟨[]⟩ ⟨[]⟩)
def q377 : OpdF := kC (.func (.func (nat_lit 257)) ⟨[]⟩ ⟨[]⟩)
def q378 : OpdF := kC (.func (.func (nat_lit 258)) ⟨[]⟩ ⟨[]⟩)
def q379 : OpdF := kC (.func (.func (nat_lit 259)) ⟨[]⟩ ⟨[]⟩)
noncomputable def k216 : KFun := ⟨[rCellN (nat_lit 0) g0 (nat_lit 16)], (kSeq (oSet (xTurn (tnAlloc q324)) p0 
oEnd) (kSeq (oSet (xLook (lkBuild q324 [((nat_lit 1), (nat_lit 1), q365), ((nat_lit 2), (nat_lit 1), q366), ((nat_lit 3), (nat_lit 1), q367), ((nat_lit 4), (nat_lit 1), q368), ((nat_lit 5), (nat_lit 1), q369), ((nat_lit 6), (nat_lit 1), q370), ((nat_lit 7), (nat_lit 1), q371), ((nat_lit 8), (nat_lit 1), q372), ((nat_lit 9), (nat_lit 1), q373), ((nat_lit 10), (nat_lit 1), q374), ((nat_lit 11), (nat_lit 1), q375), ((nat_lit 12), (nat_lit 1), q376), ((nat_lit 13), (nat_lit 1), q377), ((nat_lit 14), (nat_lit 1), q378), ((nat_lit 15), (nat_lit 1), q379)])) p1 
(oDo (xTurn (tnStore (nat_lit 16) g0 g1)) 
oEnd)) kRet))⟩
noncomputable def k217 : KFun := ⟨[], (kSeq (kSeq (oSet (xMove g0) p2 
(oSet (xNil g2) p3 
(oSet (xLook (lkFieldAddr (nat_lit 11) g3)) p4 
(oSet (xLook (lkFieldAddr (nat_lit 1) g4)) p5 
(oSet (xLook (lkLoad1 g5)) p6 
(oSet (xLook (lkEq false .int g6 q268)) p7 
oEnd)))))) (kCond g7 (oSet (xLook (lkBuild q9 [((nat_lit 0), (nat_lit 1), q18)])) p8 
(oSet (xLook (lkMkIface (nat_lit 314) g8)) p9 
(oDo (xPanic g9) 
oEnd))) kSkip)) (oSet (xMove g0) p10 
(oSet (xNil g10) p11 
(oSet (xLook (lkFieldAddr (nat_lit 11) g11)) p12 
(oSet (xLook (lkFieldAddr (nat_lit 1) g12)) p13 
(oSet (xLook (lkLoad1 g13)) p14 
(oSet (xLook (lkBin .add g14 q16)) p15 
(oSet (xNil g10) p16 
(oSet (xLook (lkFieldAddr (nat_lit 11) g16)) p17 
(oSet (xLook (lkFieldAddr (nat_lit 1) g17)) p18 
(oDo (xTurn (tnStore (nat_lit 1) g18 g15)) 
oEnd)))))))))))⟩
noncomputable def k218 : KFun := ⟨[rTmp (nat_lit 2) g2], (kSeq (oSet (xTurn (tnBox g0)) p1 
(oSet (xMove q231) p2 
oEnd)) (kSeq (oSet (xLook (lkMkFunc (.func (nat_lit 260)) [] [g1])) p3 
(oSet (xMove g3) p2 
oEnd)) kRet))⟩
def q380 : OpdF := kC (.func (.func (nat_lit 261)) ⟨[]⟩ ⟨[]⟩)
def q381 : OpdF := kC (.func (.func (nat_lit 262)) ⟨[]⟩ ⟨[]⟩)
def q382 : OpdF := kC (.func (.func (nat_lit 263)) ⟨[]⟩ ⟨[]⟩)
def q383 : OpdF := kC (.func (.func (nat_lit 264)) ⟨[]⟩ ⟨[]⟩)
noncomputable def k219d0 : KD := 
(dLook (nat_lit 21) [] [] (lkPick g23 g41 q0) p42 (dEnd [(nat_lit 21), (nat_lit 22), (nat_lit 23), (nat_lit 24), (nat_lit 25), (nat_lit 26), (nat_lit 27), (nat_lit 28), (nat_lit 29), (nat_lit 30), (nat_lit 31), (nat_lit 32), (nat_lit 33), (nat_lit 34), (nat_lit 35), (nat_lit 36), (nat_lit 37), (nat_lit 38), (nat_lit 39), (nat_lit 40), (nat_lit 41), (nat_lit 42)]))
noncomputable def k219d1 : KD := 
(dIf [] (wantT g23) p41 (dLook (nat_lit 20) [] [] (lkPick g31 q30 g40) p41 k219d0) k219d0)
noncomputable def k219d2 : KD := 
(dIf [] (wantF g31) p40 (dLook (nat_lit 19) [] [] (lkBin .leq g33 g39) p40 k219d1) k219d1)
noncomputable def k219d3 : KD := 
(dIf [] (wantF g31) p39 (dLook (nat_lit 18) [] [] (lkLoad1 g38) p39 k219d2) k219d2)
noncomputable def k219d4 : KD := 
(dIf [] (wantF g31) p38 (dLook (nat_lit 17) [] [] (lkFieldAddr (nat_lit 1) g37) p38 k219d3) k219d3)
noncomputable def k219d5 : KD := 
(dIf [] (wantF g31) p37 (dLook (nat_lit 16) [] [] (lkIxSl (nat_lit 2) g34 g36) p37 k219d4) k219d4)
noncomputable def k219d6 : KD := 
(dIf [] (wantF g31) p36 (dLook (nat_lit 15) [] [] (lkBin .sub g35 q16) p36 k219d5) k219d5)
noncomputable def k219d7 : KD := 
(dIf [] (wantF g31) p35 (dLook (nat_lit 14) [] [] (lkMove g6) p35 k219d6) k219d6)
noncomputable def k219d8 : KD := 
(dIf [] (wantF g31) p34 (dLook (nat_lit 13) [] [] (lkMove g3) p34 k219d7) k219d7)
noncomputable def k219d9 : KD := 
(dIf [] (wantF g31) p33 (dLook (nat_lit 12) [] [] (lkLoad1 g32) p33 k219d8) k219d8)
noncomputable def k219d10 : KD := 
(dIf [] (wantF g31) p32 (dLook (nat_lit 11) [] [] (lkFieldAddr (nat_lit 0) g5) p32 k219d9) k219d9)
noncomputable def k219d11 : KD := 
(dIf [] (wantT g23) p31 (dLook (nat_lit 10) [] [] (lkMove g30) p31 k219d10) k219d10)
noncomputable def k219d12 : KD := 
(dIf [] (wantT g23) p30 (dLook (nat_lit 9) [] [] (lkEq false .str g29 q33) p30 k219d11) k219d11)
noncomputable def k219d13 : KD := 
(dIf [] (wantT g23) p29 (dLook (nat_lit 8) [] [] (lkLoad1 g28) p29 k219d12) k219d12)
noncomputable def k219d14 : KD := 
(dIf [] (wantT g23) p28 (dLook (nat_lit 7) [] [] (lkFieldAddr (nat_lit 1) g27) p28 k219d13) k219d13)
noncomputable def k219d15 : KD := 
(dIf [] (wantT g23) p27 (dLook (nat_lit 6) [] [] (lkIxSl (nat_lit 2) g24 g26) p27 k219d14) k219d14)
noncomputable def k219d16 : KD := 
(dIf [] (wantT g23) p26 (dLook (nat_lit 5) [] [] (lkBin .sub g25 q16) p26 k219d15) k219d15)
noncomputable def k219d17 : KD := 
(dIf [] (wantT g23) p25 (dLook (nat_lit 4) [] [] (lkMove g6) p25 k219d16) k219d16)
noncomputable def k219d18 : KD := 
(dLook (nat_lit 18) [] [] (lkPick g52 g64 q0) p65 (dEnd [(nat_lit 47), (nat_lit 48), (nat_lit 49), (nat_lit 50), (nat_lit 51), (nat_lit 52), (nat_lit 53), (nat_lit 54), (nat_lit 55), (nat_lit 56), (nat_lit 57), (nat_lit 58), (nat_lit 59), (nat_lit 60), (nat_lit 61), (nat_lit 62), (nat_lit 63), (nat_lit 64), (nat_lit 65)]))
noncomputable def k219d19 : KD := 
(dIf [] (wantT g52) p64 (dLook (nat_lit 17) [] [] (lkPick g56 q30 g63) p64 k219d18) k219d18)
noncomputable def k219d20 : KD := 
(dIf [] (wantF g56) p63 (dLook (nat_lit 16) [] [] (lkBin .gtr g58 g62) p63 k219d19) k219d19)
noncomputable def k219d21 : KD := 
(dIf [] (wantF g56) p62 (dLook (nat_lit 15) [] [] (lkLoad1 g61) p62 k219d20) k219d20)
noncomputable def k219d22 : KD := 
(dIf [] (wantF g56) p61 (dLook (nat_lit 14) [] [] (lkFieldAddr (nat_lit 1) g60) p61 k219d21) k219d21)
noncomputable def k219d23 : KD := 
(dIf [] (wantF g56) p60 (dTurn (nat_lit 13) [] [] false (xNil g59) p60 k219d22) k219d22)
noncomputable def k219d24 : KD := 
(dIf [] (wantF g56) p59 (dLook (nat_lit 12) [] [] (lkMove g7) p59 k219d23) k219d23)
noncomputable def k219d25 : KD := 
(dIf [] (wantF g56) p58 (dLook (nat_lit 11) [] [] (lkLoad1 g57) p58 k219d24) k219d24)
noncomputable def k219d26 : KD := 
(dIf [] (wantF g56) p57 (dLook (nat_lit 10) [] [] (lkFieldAddr (nat_lit 1) g5) p57 k219d25) k219d25)
noncomputable def k219d27 : KD := 
(dIf [] (wantT g52) p56 (dLook (nat_lit 9) [] [] (lkMove g55) p56 k219d26) k219d26)
noncomputable def k219d28 : KD := 
(dIf [] (wantT g52) p55 (dLook (nat_lit 8) [] [] (lkEq false .str g54 q33) p55 k219d27) k219d27)
noncomputable def k219d29 : KD := 
(dIf [] (wantT g52) p54 (dLook (nat_lit 7) [] [] (lkLoad1 g53) p54 k219d28) k219d28)
noncomputable def k219 : KFun := ⟨[rTmp (nat_lit 2) g2], (kSeq (oSet (xMove q12) p2 
oEnd) (kSeq (oSet (xMove g0) p8 
(oSet (xCall q282 [g8]) p9 
(oSet (xCall q380 [g9, q381]) p10 
(oSet (xMove g10) p0 
oEnd)))) (kSeq (oSet (xMove g0) p11 
(oSet (xCall q382 [g11, q383]) p12 
oEnd)) (kSeq (oSet (xMove q12) p3 
oEnd) (kSeq (kSeq (oSet (xMove g0) p13 
(oSet (xLook (lkLen .sl g13)) p14 
(oSet (xMove q10) p15 
oEnd))) (kBlock (nat_lit 0) (kLoop (kSeq (oSet (xLook (lkBin .lss g15 g14)) p16 
oEnd) (kSeq (kCond g16 kSkip (kExit (nat_lit 0))) (kSeq (kBlock (nat_lit 1) (kSeq (oSet (xLook (lkIxSl (nat_lit 2) g13 g15)) p17 
(oSet (xLook (lkLoadN (nat_lit 2) g17)) p18 
(oSet (xTurn (tnAlloc q67)) p5 
(oDo (xTurn (tnStore (nat_lit 2) g5 g18)) 
oEnd)))) (kSeq (kSeq (oSet (xMove g3) p19 
(oSet (xLook (lkLen .sl g19)) p20 
(oSet (xMove g20) p6 
oEnd))) (kSeq (kDraw 
(dLook (nat_lit 0) [] [] (lkMove g6) p21 
(dLook (nat_lit 1) [] [] (lkBin .gtr g21 q10) p22 
(dLook (nat_lit 2) [] [] (lkMove g22) p23 
(dIf [] (wantT g23) p24 (dLook (nat_lit 3) [] [] (lkMove g3) p24 k219d17) k219d17))))) (kCond g42 (kSeq (kSeq (oSet (xMove g3) p43 
(oSet (xMove g6) p44 
(oSet (xLook (lkBin .sub g44 q16)) p45 
(oSet (xLook (lkIxSl (nat_lit 2) g43 g45)) p46 
(oSet (xMove g46) p7 
oEnd))))) (kSeq (kDraw 
(dLook (nat_lit 0) [] [] (lkMove g7) p47 
(dTurn (nat_lit 1) [] [] false (xNil g47) p48 
(dLook (nat_lit 2) [] [] (lkFieldAddr (nat_lit 1) g48) p49 
(dLook (nat_lit 3) [] [] (lkLoad1 g49) p50 
(dLook (nat_lit 4) [] [] (lkEq true .str g50 q33) p51 
(dLook (nat_lit 5) [] [] (lkMove g51) p52 
(dIf [] (wantT g52) p53 (dLook (nat_lit 6) [] [] (lkFieldAddr (nat_lit 1) g5) p53 k219d29) k219d29)))))))) (kCond g65 (oSet (xMove g7) p66 
(oSet (xLook (lkFieldAddr (nat_lit 1) g5)) p67 
(oSet (xLook (lkLoad1 g67)) p68 
(oSet (xNil g66) p69 
(oSet (xLook (lkFieldAddr (nat_lit 1) g69)) p70 
(oDo (xTurn (tnStore (nat_lit 1) g70 g68)) 
oEnd)))))) kSkip))) (kExit (nat_lit 1))) kSkip))) (oSet (xMove g3) p71 
(oSet (xLook (lkLoadN (nat_lit 2) g5)) p72 
(oSet (xTurn (tnBuildSlice q67 [((nat_lit 0), (nat_lit 2), g72)] (nat_lit 1))) p73 
(oSet (xTurn (tnAppend (nat_lit 2) g71 g73)) p74 
(oSet (xMove g74) p3 
oEnd)))))))) (oSet (xLook (lkBin .add g15 q16)) p75 
(oSet (xMove g75) p15 
oEnd)))))))) (kSeq (oSet (xMove g3) p76 
(oSet (xMove g76) p2 
oEnd)) kRet))))))⟩
noncomputable def k220 : KFun := ⟨[rTmp (nat_lit 2) g2], (kSeq (oSet (xTurn (tnBox g0)) p1 
(oSet (xMove q231) p2 
oEnd)) (kSeq (oSet (xLook (lkMkFunc (.func (nat_lit 267)) [] [g1])) p3 
(oSet (xMove g3) p2 
oEnd)) kRet))⟩
noncomputable def k221 : KFun := ⟨[rTmp (nat_lit 2) g2], (kSeq (oSet (xTurn (tnBox g0)) p1 
(oSet (xMove q0) p2 
oEnd)) (kSeq (oSet (xLook (lkFieldAddr (nat_lit 0) g1)) p3 
(oSet (xLook (lkLoad1 g3)) p4 
(oSet (xCall q272 [g4]) p5 
(oSet (xMove g5) p6 
(oSetIf (wantT g6) (xLook (lkFieldAddr (nat_lit 1) g1)) p7 
(oSetIf (wantT g6) (xLook (lkLoad1 g7)) p8 
(oSetIf (wantT g6) (xLook (lkLen .str g8)) p9 
(oSetIf (wantT g6) (xLook (lkBin .leq g9 q68)) p10 
(oSet (xLook (lkPick g6 g10 q0)) p11 
(oSet (xMove g11) p12 
(oSetIf (wantT g12) (xLook (lkFieldAddr (nat_lit 2) g1)) p13 
(oSetIf (wantT g12) (xLook (lkLoad1 g13)) p14 
(oSetIf (wantT g12) (xLook (lkUn .not g14)) p15 
(oSetIf (wantT g12) (xMove g15) p16 
(oSetIf (wantF g16) (xLook (lkFieldAddr (nat_lit 1) g1)) p17 
(oSetIf (wantF g16) (xLook (lkLoad1 g17)) p18 
(oSetIf (wantF g16) (xLook (lkEq false .str g18 q33)) p19 
(oSetIf (wantT g12) (xLook (lkPick g16 q30 g19)) p20 
(oSet (xLook (lkPick g12 g20 q0)) p21 
(oSet (xMove g21) p2 
oEnd)))))))))))))))))))) kRet))⟩
noncomputable def k222 : KFun := ⟨[], (kSeq (oSet (xTurn (tnBox g0)) p2 
(oSet (xTurn (tnBox g1)) p3 
oEnd)) (kSeq (kSeq (oSet (xLook (lkFieldAddr (nat_lit 2) g3)) p4 
(oSet (xLook (lkLoad1 g4)) p5 
oEnd)) (kCond g5 (kSeq (oSet (xLook (lkFieldAddr (nat_lit 0) g2)) p6 
(oSet (xLook (lkLoad1 g6)) p7 
(oSet (xLook (lkFieldAddr (nat_lit 0) g3)) p8 
(oSet (xLook (lkLoad1 g8)) p9 
(oDo (xTurn (tnDelete (.one .str) g7 g9)) 
oEnd))))) kRet) kSkip)) (oSet (xLook (lkFieldAddr (nat_lit 0) g2)) p10 
(oSet (xLook (lkLoad1 g10)) p11 
(oSet (xLook (lkFieldAddr (nat_lit 0) g3)) p12 
(oSet (xLook (lkLoad1 g12)) p13 
(oSet (xLook (lkFieldAddr (nat_lit 1) g3)) p14 
(oSet (xLook (lkLoad1 g14)) p15 
(oSet (xLook (lkBuild q5 [((nat_lit 0), (nat_lit 1), g15)])) p16 
(oDo (xTurn (tnMapUpdate (.one .str) g11 g13 g16)) 
oEnd))))))))))⟩
def q384 : OpdF := kC (.func (.func (nat_lit 268)) ⟨[]⟩ ⟨[]⟩)
noncomputable def k223 : KFun := ⟨[rTmp (nat_lit 2) g2], (kSeq (oSet (xTurn (tnBox g0)) p1 
(oSet (xMove q12) p2 
oEnd)) (kSeq (oSet (xMove q12) p3 
oEnd) (kSeq (kSeq (oSet (xLook (lkFieldAddr (nat_lit 0) g1)) p6 
(oSet (xLook (lkLoad1 g6)) p7 
(oSet (xCall q384 [g7]) p8 
(oSet (xCall q189 [g8]) p9 
(oSet (xLook (lkLen .sl g9)) p10 
(oSet (xMove q10) p11 
oEnd)))))) (kBlock (nat_lit 0) (kLoop (kSeq (oSet (xLook (lkBin .lss g11 g10)) p12 
oEnd) (kSeq (kCond g12 kSkip (kExit (nat_lit 0))) (kSeq (kBlock (nat_lit 1) (kSeq (oSet (xLook (lkIxSl (nat_lit 1) g9 g11)) p13 
(oSet (xLook (lkLoad1 g13)) p14 
(oSet (xMove g14) p5 
oEnd))) (oSet (xMove g3) p15 
(oSet (xMove g5) p16 
(oSet (xLook (lkFieldAddr (nat_lit 0) g1)) p17 
(oSet (xLook (lkLoad1 g17)) p18 
(oSet (xMove g5) p19 
(oSet (xLook (lkLookup (.one .str) (.agg ⟨[(.string ⟨⟨[]⟩⟩)]⟩) false g18 g19)) p20 
(oSet (xLook (lkField1 (nat_lit 0) g20)) p21 
(oSet (xLook (lkBuild q67 [((nat_lit 0), (nat_lit 1), g16), ((nat_lit 1), (nat_lit 1), g21)])) p22 
(oSet (xTurn (tnBuildSlice q67 [((nat_lit 0), (nat_lit 2), g22)] (nat_lit 1))) p23 
(oSet (xTurn (tnAppend (nat_lit 2) g15 g23)) p24 
(oSet (xMove g24) p3 
oEnd))))))))))))) (oSet (xLook (lkBin .add g11 q16)) p25 
(oSet (xMove g25) p11 
oEnd)))))))) (kSeq (oSet (xMove g3) p26 
(oSet (xMove g26) p2 
oEnd)) kRet))))⟩
def q385 : OpdF := kC (.func (.func (nat_lit 269)) ⟨[]⟩ ⟨[]⟩)
def q386 : OpdF := kC (.func (.func (nat_lit 270)) ⟨[]⟩ ⟨[]⟩)
noncomputable def k224 : KFun := ⟨[rTmp (nat_lit 6) g6], (kSeq (oSet (xMove q0) p6 
oEnd) (kSeq (oSet (xMove g0) p7 
(oSet (xMove g1) p8 
(oSet (xCall q385 [g7, g8]) p9 
(oSet (xLook (lkLen .sl g9)) p10 
(oSet (xLook (lkBin .gtr g10 q10)) p11 
(oSet (xMove g11) p12 
(oSetIf (wantF g12) (xMove g0) p13 
(oSetIf (wantF g12) (xMove g2) p14 
(oSetIf (wantF g12) (xCall q386 [g13, g14]) p15 
(oSetIf (wantF g12) (xLook (lkLen .sl g15)) p16 
(oSetIf (wantF g12) (xLook (lkBin .gtr g16 q10)) p17 
(oSet (xLook (lkPick g12 q30 g17)) p18 
(oSet (xMove g18) p6 
oEnd))))))))))))) kRet))⟩
noncomputable def k225 : KFun := ⟨[rTmp (nat_lit 4) g4], (kSeq (oSet (xTurn (tnBox g0)) p2 
(oSet (xTurn (tnBox g1)) p3 
(oSet (xMove q231) p4 
oEnd))) (kSeq (oSet (xLook (lkMkFunc (.func (nat_lit 271)) [] [g3, g2])) p5 
(oSet (xMove g5) p4 
oEnd)) kRet))⟩
noncomputable def k228d0 : KD := 
(dLook (nat_lit 14) [] [(nat_lit 13)] (lkPick g19 g29 q0) p30 (dEnd [(nat_lit 16), (nat_lit 17), (nat_lit 18), (nat_lit 19), (nat_lit 20), (nat_lit 21), (nat_lit 22), (nat_lit 23), (nat_lit 24), (nat_lit 25), (nat_lit 26), (nat_lit 27), (nat_lit 28), (nat_lit 29), (nat_lit 30)]))
noncomputable def k228d1 : KD := 
(dIf [] (wantT g19) p29 (dTurn (nat_lit 13) [] [] true (xCall q346 [g23, g28]) p29 k228d0) k228d0)
noncomputable def k228d2 : KD := 
(dIf [] (wantT g19) p28 (dLook (nat_lit 12) [] [] (lkLoad1 g27) p28 k228d1) k228d1)
noncomputable def k228d3 : KD := 
(dIf [] (wantT g19) p27 (dLook (nat_lit 11) [] [] (lkIxSl (nat_lit 1) g24 g26) p27 k228d2) k228d2)
noncomputable def k228d4 : KD := 
(dIf [] (wantT g19) p26 (dLook (nat_lit 10) [] [] (lkBin .sub g25 q16) p26 k228d3) k228d3)
noncomputable def k228d5 : KD := 
(dIf [] (wantT g19) p25 (dLook (nat_lit 9) [] [] (lkMove g7) p25 k228d4) k228d4)
noncomputable def k228d6 : KD := 
(dIf [] (wantT g19) p24 (dLook (nat_lit 8) [] [] (lkMove g0) p24 k228d5) k228d5)
noncomputable def k228d7 : KD := 
(dIf [] (wantT g19) p23 (dLook (nat_lit 7) [] [] (lkLoad1 g22) p23 k228d6) k228d6)
noncomputable def k228d8 : KD := 
(dIf [] (wantT g19) p22 (dLook (nat_lit 6) [] [] (lkIxSl (nat_lit 1) g20 g21) p22 k228d7) k228d7)
noncomputable def k228d9 : KD := 
(dIf [] (wantT g19) p21 (dLook (nat_lit 5) [] [] (lkMove g7) p21 k228d8) k228d8)
noncomputable def k228 : KFun := ⟨[], (kSeq (oSet (xMove g1) p8 
(oSet (xLook (lkBin .add g8 q16)) p9 
(oSet (xMove g9) p6 
oEnd))) (kBlock (nat_lit 0) (kLoop (kSeq (kSeq (oSet (xMove g6) p10 
(oSet (xMove g2) p11 
(oSet (xLook (lkBin .lss g10 g11)) p12 
oEnd))) (kCond g12 kSkip (kExit (nat_lit 0)))) (kSeq (kBlock (nat_lit 1) (kSeq (oSet (xMove g6) p15 
(oSet (xMove g15) p7 
oEnd)) (kBlock (nat_lit 2) (kLoop (kSeq (kSeq (kDraw 
(dLook (nat_lit 0) [] [] (lkMove g7) p16 
(dLook (nat_lit 1) [] [] (lkMove g1) p17 
(dLook (nat_lit 2) [] [] (lkBin .gtr g16 g17) p18 
(dLook (nat_lit 3) [] [] (lkMove g18) p19 
(dIf [] (wantT g19) p20 (dLook (nat_lit 4) [] [] (lkMove g0) p20 k228d9) k228d9)))))) (kCond g30 kSkip (kExit (nat_lit 2)))) (kSeq (kBlock (nat_lit 3) (kDraw 
(dLook (nat_lit 0) [] [] (lkMove g0) p33 
(dLook (nat_lit 1) [] [] (lkMove g7) p34 
(dLook (nat_lit 2) [] [] (lkMove g0) p35 
(dLook (nat_lit 3) [] [] (lkMove g7) p36 
(dLook (nat_lit 4) [] [] (lkBin .sub g36 q16) p37 
(dLook (nat_lit 5) [] [] (lkMove g0) p38 
(dLook (nat_lit 6) [] [] (lkMove g7) p39 
(dLook (nat_lit 7) [] [] (lkBin .sub g39 q16) p40 
(dLook (nat_lit 8) [] [] (lkIxSl (nat_lit 1) g38 g40) p41 
(dLook (nat_lit 9) [] [] (lkLoad1 g41) p42 
(dLook (nat_lit 10) [] [] (lkMove g0) p43 
(dLook (nat_lit 11) [] [] (lkMove g7) p44 
(dLook (nat_lit 12) [] [] (lkIxSl (nat_lit 1) g43 g44) p45 
(dLook (nat_lit 13) [] [] (lkLoad1 g45) p46 
(dLook (nat_lit 14) [] [] (lkIxSl (nat_lit 1) g33 g34) p47 
(dTurn (nat_lit 15) [] [] true (xTurn (tnStore (nat_lit 1) g47 g42)) noDst 
(dLook (nat_lit 16) [] [(nat_lit 15)] (lkIxSl (nat_lit 1) g35 g37) p48 
(dTurn (nat_lit 17) [] [(nat_lit 15)] true (xTurn (tnStore (nat_lit 1) g48 g46)) noDst (dEnd [(nat_lit 33), (nat_lit 34), (nat_lit 35), (nat_lit 36), (nat_lit 37), (nat_lit 38), (nat_lit 39), (nat_lit 40), (nat_lit 41), (nat_lit 42), (nat_lit 43), (nat_lit 44), (nat_lit 45), (nat_lit 46), (nat_lit 47), (nat_lit 48)]))))))))))))))))))))) (oSet (xMove g7) p31 
(oSet (xLook (lkBin .sub g31 q16)) p32 
(oSet (xMove g32) p7 
oEnd))))))))) (oSet (xMove g6) p13 
(oSet (xLook (lkBin .add g13 q16)) p14 
(oSet (xMove g14) p6 
oEnd))))))))⟩
def q398 : OpdF := kC (.int .u64 (.ofNat (nat_lit 16)))
def q400 : OpdF := kC (.string ⟨⟨[0, 1, 2, 2, 3, 3, 3, 3, 4, 4, 4, 4, 4, 4, 4, 4, 5, 5, 5, 5, 5, 5, 5, 5, 5, 5, 5, 5, 5, 5, 5, 5, 6, 6, 6, 6, 6, 6, 6, 6, 6, 6, 6, 6, 6, 6, 6, 6, 6, 6, 6, 6, 6, 6, 6, 6, 6, 6, 6, 6, 6, 6, 6, 6, 7, 7, 7, 7, 7, 7, 7, 7, 7, 7, 7, 7, 7, 7, 7, 7, 7, 7, 7, 7, 7, 7, 7, 7, 7, 7, 7, 7, 7, 7, 7, 7, 7, 7, 7, 7, 7, 7, 7, 7, 7, 7, 7, 7, 7, 7, 7, 7, 7, 7, 7, 7, 7, 7, 7, 7, 7, 7, 7, 7, 7, 7, 7, 7, 8, 8, 8, 8, 8, 8, 8, 8, 8, 8, 8, 8, 8, 8, 8, 8, 8, 8, 8, 8, 8, 8, 8, 8, 8, 8, 8, 8, 8, 8, 8, 8, 8, 8, 8, 8, 8, 8, 8, 8, 8, 8, 8, 8, 8, 8, 8, 8, 8, 8, 8, 8, 8, 8, 8, 8, 8, 8, 8, 8, 8, 8, 8, 8, 8, 8, 8, 8, 8, 8, 8, 8, 8, 8, 8, 8, 8, 8, 8, 8, 8, 8, 8, 8, 8, 8, 8, 8, 8, 8, 8, 8, 8, 8, 8, 8, 8, 8, 8, 8, 8, 8, 8, 8, 8, 8, 8, 8, 8, 8, 8, 8, 8, 8, 8, 8, 8, 8, 8, 8, 8, 8, 8, 8, 8, 8, 8, 8]⟩⟩)
def q401 : OpdF := kC (.int .u64 (.ofNat (nat_lit 4294967296)))
def q402 : OpdF := kC (.int .u64 (.ofNat (nat_lit 32)))
def q403 : OpdF := kC (.int .u64 (.ofNat (nat_lit 65536)))
def q404 : OpdF := kC (.int .u64 (.ofNat (nat_lit 256)))
noncomputable def k238 : KFun := ⟨[rTmp (nat_lit 2) g2], (kSeq (oSet (xMove q10) p2 
oEnd) (kSeq (kSeq (oSet (xMove g0) p3 
(oSet (xLook (lkBin .geq g3 q401)) p4 
oEnd)) (kCond g4 (kSeq (oSet (xMove g0) p5 
(oSet (xLook (lkBin .shr g5 q402)) p6 
(oSet (xMove g6) p0 
oEnd))) (oSet (xMove q244) p2 
oEnd)) kSkip)) (kSeq (kSeq (oSet (xMove g0) p7 
(oSet (xLook (lkBin .geq g7 q403)) p8 
oEnd)) (kCond g8 (kSeq (oSet (xMove g0) p9 
(oSet (xLook (lkBin .shr g9 q398)) p10 
(oSet (xMove g10) p0 
oEnd))) (oSet (xMove g2) p11 
(oSet (xLook (lkBin .add g11 q74)) p12 
(oSet (xMove g12) p2 
oEnd)))) kSkip)) (kSeq (kSeq (oSet (xMove g0) p13 
(oSet (xLook (lkBin .geq g13 q404)) p14 
oEnd)) (kCond g14 (kSeq (oSet (xMove g0) p15 
(oSet (xLook (lkBin .shr g15 q357)) p16 
(oSet (xMove g16) p0 
oEnd))) (oSet (xMove g2) p17 
(oSet (xLook (lkBin .add g17 q45)) p18 
(oSet (xMove g18) p2 
oEnd)))) kSkip)) (kSeq (oSet (xMove g2) p19 
(oSet (xMove g0) p20 
(oSet (xLook (lkIntTo .u8 g20)) p21 
(oSet (xLook (lkIxStr q400 g21)) p22 
(oSet (xLook (lkIntTo .i64 g22)) p23 
(oSet (xLook (lkBin .add g19 g23)) p24 
(oSet (xMove g24) p2 
oEnd))))))) kRet)))))⟩
def q422 : OpdF := kC (.int .i64 (.ofNat (nat_lit 100)))
def q423 : OpdF := kC (.func (.func (nat_lit 282)) ⟨[]⟩ ⟨[]⟩)
def q424 : List Value := [(.int .u8 (.ofNat (nat_lit 0))), (.int .u8 (.ofNat (nat_lit 0))), (.int .u8 (.ofNat (nat_lit 0))), (.int .u8 (.ofNat (nat_lit 0))), (.int .u8 (.ofNat (nat_lit 0))), (.int .u8 (.ofNat (nat_lit 0))), (.int .u8 (.ofNat (nat_lit 0))), (.int .u8 (.ofNat (nat_lit 0))), (.int .u8 (.ofNat (nat_lit 0))), (.int .u8 (.ofNat (nat_lit 0))), (.int .u8 (.ofNat (nat_lit 0))), (.int .u8 (.ofNat (nat_lit 0))), (.int .u8 (.ofNat (nat_lit 0))), (.int .u8 (.ofNat (nat_lit 0))), (.int .u8 (.ofNat (nat_lit 0))), (.int .u8 (.ofNat (nat_lit 0))), (.int .u8 (.ofNat (nat_lit 0))), (.int .u8 (.ofNat (nat_lit 0))), (.int .u8 (.ofNat (nat_lit 0))), (.int .u8 (.ofNat (nat_lit 0))), (.int .u8 (.ofNat (nat_lit 0))), (.int .u8 (.ofNat (nat_lit 0))), (.int .u8 (.ofNat (nat_lit 0))), (.int .u8 (.ofNat (nat_lit 0)))]
def q425 : OpdF := kC (.func (.func (nat_lit 283)) ⟨[]⟩ ⟨[]⟩)
def q426 : OpdF := kC (.func (.func (nat_lit 284)) ⟨[]⟩ ⟨[]⟩)
def q427 : OpdF := kC (.int .u8 (.ofNat (nat_lit 45)))
def q428 : OpdF := kC (.func (.func (nat_lit 285)) ⟨[]⟩ ⟨[]⟩)
noncomputable def k243 : KFun := ⟨[rTmp (nat_lit 4) g4], (kSeq (oSet (xMove q33) p4 
oEnd) (kSeq (kSeq (oSet (xMove g1) p10 
(oSet (xLook (lkEq false .int g10 q103)) p11 
oEnd)) (kCond g11 (kSeq (kSeq (oSet (xMove g0) p12 
(oSet (xLook (lkBin .leq q10 g12)) p13 
(oSet (xMove g13) p14 
(oSetIf (wantT g14) (xMove g0) p15 
(oSetIf (wantT g14) (xLook (lkBin .lss g15 q422)) p16 
(oSet (xLook (lkPick g14 g16 q0)) p17 
oEnd)))))) (kCond g17 (kSeq (oSet (xMove g0) p18 
(oSet (xCall q423 [g18]) p19 
(oSet (xMove g19) p4 
oEnd))) kRet) kSkip)) (kSeq (oSet (xTurn (tnAlloc q424)) p5 
oEnd) (kSeq (oSet (xMove g0) p20 
(oSet (xLook (lkIntTo .u64 g20)) p21 
(oSet (xMove g21) p6 
oEnd))) (kSeq (kSeq (oSet (xMove g0) p22 
(oSet (xLook (lkBin .lss g22 q10)) p23 
oEnd)) (kCond g23 (oSet (xMove g6) p24 
(oSet (xLook (lkUn .neg g24)) p25 
(oSet (xMove g25) p6 
oEnd))) kSkip)) (kSeq (oSet (xMove g6) p26 
(oSet (xCall q425 [g26]) p27 
(oSet (xMove g27) p7 
oEnd))) (kSeq (oSet (xMove g7) p28 
(oSet (xLook (lkBin .add q16 g28)) p29 
(oSet (xLook (lkSliceArr (nat_lit 24) (nat_lit 1) g5 (some q16) (some g29) none)) p30 
(oSet (xMove g6) p31 
(oSet (xCall q426 [g30, g31]) p32 
oEnd))))) (kSeq (kSeq (oSet (xMove g0) p33 
(oSet (xLook (lkBin .lss g33 q10)) p34 
oEnd)) (kCond g34 (kSeq (oSet (xLook (lkIxArr (nat_lit 24) (nat_lit 1) g5 q10)) p35 
(oDo (xTurn (tnStore (nat_lit 1) g35 q427)) 
oEnd)) (kSeq (oSet (xMove g7) p36 
(oSet (xLook (lkBin .add q16 g36)) p37 
(oSet (xLook (lkSliceArr (nat_lit 24) (nat_lit 1) g5 none (some g37) none)) p38 
(oSet (xLook (lkBytesTo g38)) p39 
(oSet (xMove g39) p4 
oEnd))))) kRet)) kSkip)) (kSeq (oSet (xMove g7) p40 
(oSet (xLook (lkBin .add q16 g40)) p41 
(oSet (xLook (lkSliceArr (nat_lit 24) (nat_lit 1) g5 (some q16) (some g41) none)) p42 
(oSet (xLook (lkBytesTo g42)) p43 
(oSet (xMove g43) p4 
oEnd))))) kRet)))))))) kSkip)) (kSeq (oSet (xMove g0) p45 
(oSet (xLook (lkIntTo .u64 g45)) p46 
(oSet (xMove g1) p47 
(oSet (xMove g0) p48 
(oSet (xLook (lkBin .lss g48 q10)) p49 
(oSet (xCall q428 [q12, g46, g47, g49, q0]) p50 
(oSet (xMove g50) p44 
(oSet (xLook (lkExtract (nat_lit 0) g44)) p51 
(oSet (xLook (lkExtract (nat_lit 1) g44)) p52 
(oSet (xMove g51) p8 
(oSet (xMove g52) p9 
oEnd))))))))))) (kSeq (oSet (xMove g9) p53 
(oSet (xMove g53) p4 
oEnd)) kRet))))⟩
noncomputable def k245 : KFun := ⟨[], (kSeq (oSet (xTurn (tnBox g1)) p3 
oEnd) (kDraw 
(dLook (nat_lit 0) [] [] (lkMove g0) p4 
(dLook (nat_lit 1) [] [] (lkFieldAddr (nat_lit 1) g3) p5 
(dLook (nat_lit 2) [] [] (lkLoad1 g5) p6 
(dLook (nat_lit 3) [] [] (lkFieldAddr (nat_lit 5) g3) p7 
(dLook (nat_lit 4) [] [] (lkLoad1 g7) p8 
(dTurn (nat_lit 5) [] [] false (xNil g4) p9 
(dLook (nat_lit 6) [] [] (lkFieldAddr (nat_lit 0) g9) p10 
(dLook (nat_lit 7) [] [] (lkFieldAddr (nat_lit 0) g10) p11 
(dLook (nat_lit 8) [] [] (lkIxArr (nat_lit 8) (nat_lit 1) g11 g6) p12 
(dTurn (nat_lit 9) [] [] true (xTurn (tnStore (nat_lit 1) g12 g8)) noDst (dEnd [(nat_lit 4), (nat_lit 5), (nat_lit 6), (nat_lit 7), (nat_lit 8), (nat_lit 9), (nat_lit 10), (nat_lit 11), (nat_lit 12)])))))))))))))⟩
def q430 : OpdF := kC (.func (.func (nat_lit 288)) ⟨[]⟩ ⟨[]⟩)
def q433 : OpdF := kC (.func (.func (nat_lit 290)) ⟨[]⟩ ⟨[]⟩)
noncomputable def k248 : KFun := ⟨[], (kSeq (oSet (xTurn (tnBox g1)) p3 
oEnd) (kSeq (oSet (xMove g0) p5 
(oSet (xLook (lkFieldAddr (nat_lit 1) g3)) p6 
(oSet (xLook (lkLoad1 g6)) p7 
(oSet (xCall q430 [g5, g7]) p8 
(oSet (xMove g8) p4 
oEnd))))) (kDraw 
(dLook (nat_lit 0) [] [] (lkMove g0) p9 
(dTurn (nat_lit 1) [] [] false (xNil g9) p10 
(dLook (nat_lit 2) [] [] (lkFieldAddr (nat_lit 8) g10) p11 
(dLook (nat_lit 3) [] [] (lkMove g4) p12 
(dLook (nat_lit 4) [] [] (lkMove g0) p13 
(dLook (nat_lit 5) [] [] (lkFieldAddr (nat_lit 2) g3) p14 
(dLook (nat_lit 6) [] [] (lkLoad1 g14) p15 
(dTurn (nat_lit 7) [] [] false (xNil g13) p16 
(dLook (nat_lit 8) [] [] (lkFieldAddr (nat_lit 0) g16) p17 
(dLook (nat_lit 9) [] [] (lkFieldAddr (nat_lit 0) g17) p18 
(dLook (nat_lit 10) [] [] (lkIxArr (nat_lit 8) (nat_lit 1) g18 g15) p19 
(dLook (nat_lit 11) [] [] (lkLoad1 g19) p20 
(dLook (nat_lit 12) [] [] (lkBuild q69 [((nat_lit 0), (nat_lit 1), g12), ((nat_lit 1), (nat_lit 1), g20)]) p21 
(dTurn (nat_lit 13) [] [] true (xCall q433 [g11, g21]) p22 (dEnd [(nat_lit 9), (nat_lit 10), (nat_lit 11), (nat_lit 12), (nat_lit 13), (nat_lit 14), (nat_lit 15), (nat_lit 16), (nat_lit 17), (nat_lit 18), (nat_lit 19), (nat_lit 20), (nat_lit 21), (nat_lit 22)]))))))))))))))))))⟩
def q438 : OpdF := kC (.int .u64 (.ofNat (nat_lit 0)))
noncomputable def k260 : KFun := ⟨[], (kSeq (oSet (xLook (lkLoad1 g1)) p4 
(oSet (xTurn (tnRangeMap g4)) p5 
oEnd)) (kBlock (nat_lit 0) (kLoop (kSeq (oSet (xNextMap g5) p6 
(oSet (xLook (lkExtract (nat_lit 0) g6)) p7 
oEnd)) (kSeq (kCond g7 kSkip (kExit (nat_lit 0))) (kBlock (nat_lit 1) (kSeq (oSet (xLook (lkEntry g5)) p8 
(oSet (xLook (lkExtract (nat_lit 0) g8)) p9 
(oSet (xMove g9) p3 
oEnd))) (kSeq (oSet (xMove g0) p10 
(oSet (xMove g3) p11 
(oSet (xCall g10 [g11]) p12 
(oSet (xLook (lkUn .not g12)) p13 
oEnd)))) (kCond g13 kRet kSkip)))))))))⟩
def q441 : OpdF := kC (.func (.func (nat_lit 297)) ⟨[]⟩ ⟨[]⟩)
noncomputable def k261 : KFun := ⟨[rTmp (nat_lit 4) g4], (kSeq (oSet (xMove q12) p4 
oEnd) (kSeq (oSet (xMove g0) p8 
(oSet (xMove g1) p9 
(oSet (xCall q441 [g8, g9]) p10 
(oSet (xMove g10) p5 
oEnd)))) (kSeq (kSeq (oSet (xMove g5) p11 
(oSet (xLook (lkEq false .int g11 q41)) p12 
oEnd)) (kCond g12 (kSeq (oSet (xMove g0) p13 
(oSet (xMove g13) p4 
oEnd)) kRet) kSkip)) (kSeq (kSeq (oSet (xMove g5) p14 
(oSet (xLook (lkBin .add g14 q16)) p15 
(oSet (xMove g15) p6 
oEnd))) (kBlock (nat_lit 0) (kLoop (kSeq (kSeq (oSet (xMove g6) p16 
(oSet (xMove g0) p17 
(oSet (xLook (lkLen .sl g17)) p18 
(oSet (xLook (lkBin .lss g16 g18)) p19 
oEnd)))) (kCond g19 kSkip (kExit (nat_lit 0)))) (kSeq (kBlock (nat_lit 1) (kSeq (oSet (xMove g0) p22 
(oSet (xMove g6) p23 
(oSet (xLook (lkIxSl (nat_lit 2) g22 g23)) p24 
(oSet (xLook (lkLoadN (nat_lit 2) g24)) p25 
(oSet (xTurn (tnAlloc q67)) p7 
(oDo (xTurn (tnStore (nat_lit 2) g7 g25)) 
oEnd)))))) (kSeq (oSet (xMove g1) p26 
(oSet (xLook (lkLoadN (nat_lit 2) g7)) p27 
(oSet (xCall g26 [g27]) p28 
(oSet (xLook (lkUn .not g28)) p29 
oEnd)))) (kCond g29 (kSeq (oSet (xMove g0) p30 
(oSet (xMove g5) p31 
(oSet (xLook (lkLoadN (nat_lit 2) g7)) p32 
(oSet (xLook (lkIxSl (nat_lit 2) g30 g31)) p33 
(oDo (xTurn (tnStore (nat_lit 2) g33 g32)) 
oEnd))))) (oSet (xMove g5) p34 
(oSet (xLook (lkBin .add g34 q16)) p35 
(oSet (xMove g35) p5 
oEnd)))) kSkip)))) (oSet (xMove g6) p20 
(oSet (xLook (lkBin .add g20 q16)) p21 
(oSet (xMove g21) p6 
oEnd)))))))) (kSeq (oSet (xMove g0) p36 
(oSet (xMove g5) p37 
(oSet (xLook (lkSliceSl (nat_lit 2) g36 (some g37) none none)) p38 
(oDo (xTurn (tnClear q67 g38)) 
oEnd)))) (kSeq (oSet (xMove g0) p39 
(oSet (xMove g5) p40 
(oSet (xLook (lkSliceSl (nat_lit 2) g39 none (some g40) none)) p41 
(oSet (xMove g41) p4 
oEnd)))) kRet))))))⟩
def q442 : OpdF := kC (.func (.func (nat_lit 298)) ⟨[]⟩ ⟨[]⟩)
noncomputable def k263 : KFun := ⟨[], (kSeq (oSet (xMove g0) p5 
(oSet (xLook (lkLen .sl g5)) p6 
(oSet (xMove g6) p4 
oEnd))) (oSet (xMove g0) p7 
(oSet (xMove g4) p8 
(oSet (xMove g4) p9 
(oSet (xLook (lkIntTo .u64 g9)) p10 
(oSet (xCall q295 [g10]) p11 
(oSet (xMove g1) p12 
(oSet (xCall q442 [g7, q10, g8, g11, g12]) p13 
oEnd))))))))⟩
noncomputable def k267 : KFun := ⟨[], (kSeq (oSet (xLook (lkLoad1 g1)) p4 
(oSet (xTurn (tnRangeMap g4)) p5 
oEnd)) (kBlock (nat_lit 0) (kLoop (kSeq (oSet (xNextMap g5) p6 
(oSet (xLook (lkExtract (nat_lit 0) g6)) p7 
oEnd)) (kSeq (kCond g7 kSkip (kExit (nat_lit 0))) (kBlock (nat_lit 1) (kSeq (oSet (xLook (lkEntry g5)) p8 
(oSet (xLook (lkExtract (nat_lit 0) g8)) p9 
(oSet (xMove g9) p3 
oEnd))) (kSeq (oSet (xMove g0) p10 
(oSet (xMove g3) p11 
(oSet (xCall g10 [g11]) p12 
(oSet (xLook (lkUn .not g12)) p13 
oEnd)))) (kCond g13 kRet kSkip)))))))))⟩
noncomputable def k268 : KFun := ⟨[rTmp (nat_lit 2) g2], (kSeq (oSet (xTurn (tnBox g0)) p1 
(oSet (xMove q231) p2 
oEnd)) (kSeq (oSet (xLook (lkMkFunc (.func (nat_lit 299)) [] [g1])) p3 
(oSet (xMove g3) p2 
oEnd)) kRet))⟩
def q445 : OpdF := kC (.func (.func (nat_lit 300)) ⟨[]⟩ ⟨[]⟩)
noncomputable def k269 : KFun := ⟨[rTmp (nat_lit 4) g4], (kSeq (oSet (xMove q12) p4 
oEnd) (kSeq (oSet (xMove g0) p5 
(oSet (xMove g1) p6 
(oSet (xCall q445 [g5, g6, q30]) p7 
(oSet (xMove g7) p4 
oEnd)))) kRet))⟩
def q446 : OpdF := kC (.func (.func (nat_lit 301)) ⟨[]⟩ ⟨[]⟩)
noncomputable def k270 : KFun := ⟨[rTmp (nat_lit 4) g4], (kSeq (oSet (xTurn (tnBox g1)) p3 
(oSet (xMove q12) p4 
oEnd)) (kSeq (oSet (xMove g0) p5 
(oSet (xCall q278 [g5]) p6 
(oSet (xLook (lkMkFunc (.func (nat_lit 302)) [] [g3])) p7 
(oSet (xCall q446 [g6, g7]) p8 
(oSet (xMove g8) p4 
oEnd))))) kRet))⟩
noncomputable def k271 : KFun := ⟨[], (kSeq (oSet (xLook (lkLoad1 g1)) p8 
(oSet (xLook (lkLen .sl g8)) p9 
(oSet (xMove q10) p10 
oEnd))) (kBlock (nat_lit 0) (kLoop (kSeq (oSet (xLook (lkBin .lss g10 g9)) p11 
oEnd) (kSeq (kCond g11 kSkip (kExit (nat_lit 0))) (kSeq (kBlock (nat_lit 1) (kSeq (oSet (xMove g10) p12 
(oSet (xLook (lkIxSl (nat_lit 1) g8 g10)) p13 
(oSet (xLook (lkLoad1 g13)) p14 
(oSet (xMove g12) p4 
(oSet (xMove g14) p5 
oEnd))))) (kSeq (oSet (xMove g5) p16 
(oSet (xLook (lkLoad1 g2)) p17 
(oSet (xNil g17) p18 
(oSet (xLook (lkFieldAddr (nat_lit 0) g18)) p19 
(oSet (xLook (lkFieldAddr (nat_lit 0) g19)) p20 
(oSet (xLook (lkLoad1 g20)) p21 
(oSet (xCall q274 [g16, g21]) p22 
(oSet (xMove g22) p15 
(oSet (xLook (lkExtract (nat_lit 0) g15)) p23 
(oSet (xLook (lkExtract (nat_lit 1) g15)) p24 
(oSet (xTurn (tnAlloc q205)) p6 
(oDo (xTurn (tnStore (nat_lit 5) g6 g23)) 
(oSet (xMove g24) p7 
oEnd))))))))))))) (kSeq (kSeq (oSet (xMove g7) p25 
(oSet (xLook (lkEq true .int g25 q10)) p26 
oEnd)) (kCond g26 (oSet (xLook (lkLoad1 g2)) p27 
(oSet (xMove g7) p28 
(oSet (xNil g27) p29 
(oSet (xLook (lkFieldAddr (nat_lit 0) g29)) p30 
(oSet (xLook (lkFieldAddr (nat_lit 1) g30)) p31 
(oDo (xTurn (tnStore (nat_lit 1) g31 g28)) 
oEnd)))))) kSkip)) (kSeq (kDraw 
(dLook (nat_lit 0) [] [] (lkLoad1 g2) p32 
(dTurn (nat_lit 1) [] [] false (xNil g32) p33 
(dLook (nat_lit 2) [] [] (lkFieldAddr (nat_lit 0) g33) p34 
(dLook (nat_lit 3) [] [] (lkFieldAddr (nat_lit 4) g6) p35 
(dLook (nat_lit 4) [] [] (lkLoad1 g35) p36 
(dTurn (nat_lit 5) [] [] true (xCall q228 [g34, g36]) p37 (dEnd [(nat_lit 32), (nat_lit 33), (nat_lit 34), (nat_lit 35), (nat_lit 36), (nat_lit 37)])))))))) (kSeq (oSet (xLook (lkLoad1 g2)) p38 
(oSet (xNil g38) p39 
(oSet (xLook (lkFieldAddr (nat_lit 0) g39)) p40 
(oSet (xLook (lkFieldAddr (nat_lit 1) g40)) p41 
(oSet (xLook (lkLoad1 g41)) p42 
(oSet (xLook (lkEq true .int g42 q10)) p43 
(oSet (xMove g43) p44 
(oSetIf (wantF g44) (xMove g0) p45 
(oSetIf (wantF g44) (xMove g4) p46 
(oSetIf (wantF g44) (xLook (lkLoadN (nat_lit 5) g6)) p47 
(oSetIf (wantF g44) (xCall g45 [g46, g47]) p48 
(oSetIf (wantF g44) (xLook (lkUn .not g48)) p49 
(oSet (xLook (lkPick g44 q30 g49)) p50 
oEnd))))))))))))) (kCond g50 kRet kSkip))))))) (oSet (xLook (lkBin .add g10 q16)) p51 
(oSet (xMove g51) p10 
oEnd))))))))⟩
def q450 : OpdF := kC (.int .u32 (.ofNat (nat_lit 0)))
def q516 : OpdF := kC (.string ⟨⟨[48, 49, 50, 51, 52, 53, 54, 55, 56, 57, 97, 98, 99, 100, 101, 102, 103, 104, 105, 106, 107, 108, 109, 110, 111, 112, 113, 114, 115, 116, 117, 118, 119, 120, 121, 122]⟩⟩)
def q517 : OpdF := kC (.string ⟨⟨[48, 48, 48, 49, 48, 50, 48, 51, 48, 52, 48, 53, 48, 54, 48, 55, 48, 56, 48, 57, 49, 48, 49, 49, 49, 50, 49, 51, 49, 52, 49, 53, 49, 54, 49, 55, 49, 56, 49, 57, 50, 48, 50, 49, 50, 50, 50, 51, 50, 52, 50, 53, 50, 54, 50, 55, 50, 56, 50, 57, 51, 48, 51, 49, 51, 50, 51, 51, 51, 52, 51, 53, 51, 54, 51, 55, 51, 56, 51, 57, 52, 48, 52, 49, 52, 50, 52, 51, 52, 52, 52, 53, 52, 54, 52, 55, 52, 56, 52, 57, 53, 48, 53, 49, 53, 50, 53, 51, 53, 52, 53, 53, 53, 54, 53, 55, 53, 56, 53, 57, 54, 48, 54, 49, 54, 50, 54, 51, 54, 52, 54, 53, 54, 54, 54, 55, 54, 56, 54, 57, 55, 48, 55, 49, 55, 50, 55, 51, 55, 52, 55, 53, 55, 54, 55, 55, 55, 56, 55, 57, 56, 48, 56, 49, 56, 50, 56, 51, 56, 52, 56, 53, 56, 54, 56, 55, 56, 56, 56, 57, 57, 48, 57, 49, 57, 50, 57, 51, 57, 52, 57, 53, 57, 54, 57, 55, 57, 56, 57, 57]⟩⟩)
noncomputable def k282 : KFun := ⟨[rTmp (nat_lit 2) g2], (kSeq (oSet (xMove q33) p2 
oEnd) (kSeq (kSeq (oSet (xMove g0) p3 
(oSet (xLook (lkBin .lss g3 q103)) p4 
oEnd)) (kCond g4 (kSeq (oSet (xMove g0) p5 
(oSet (xMove g0) p6 
(oSet (xLook (lkBin .add g6 q16)) p7 
(oSet (xLook (lkSliceStr q516 (some g5) (some g7))) p8 
(oSet (xMove g8) p2 
oEnd))))) kRet) kSkip)) (kSeq (oSet (xMove g0) p9 
(oSet (xLook (lkBin .mul g9 q18)) p10 
(oSet (xMove g0) p11 
(oSet (xLook (lkBin .mul g11 q18)) p12 
(oSet (xLook (lkBin .add g12 q18)) p13 
(oSet (xLook (lkSliceStr q517 (some g10) (some g13))) p14 
(oSet (xMove g14) p2 
oEnd))))))) kRet)))⟩
def q518 : OpdF := kC (.func (.func (nat_lit 306)) ⟨[]⟩ ⟨[]⟩)
def q519 : OpdF := kC (.func (.func (nat_lit 307)) ⟨[]⟩ ⟨[]⟩)
noncomputable def k283 : KFun := ⟨[rTmp (nat_lit 2) g2], (kSeq (oSet (xMove q10) p2 
oEnd) (kSeq (oSet (xMove g0) p4 
(oSet (xCall q350 [g4]) p5 
(oSet (xCall q518 [g5]) p6 
(oSet (xMove g6) p3 
oEnd)))) (kSeq (oSet (xMove g3) p7 
(oSet (xMove g0) p8 
(oSet (xMove g3) p9 
(oSet (xBad "indexAddr") p10 
(oSet (xLook (lkLoad1 g10)) p11 
(oSet (xLook (lkBin .geq g8 g11)) p12 
(oSet (xCall q519 [g12]) p13 
(oSet (xLook (lkBin .add g7 g13)) p14 
(oSet (xMove g14) p2 
oEnd))))))))) kRet)))⟩
def q520 : OpdF := kC (.int .u64 (.ofNat (nat_lit 100000000)))
def q521 : OpdF := kC (.int .u32 (.ofNat (nat_lit 10000)))
def q522 : OpdF := kC (.int .u32 (.ofNat (nat_lit 100)))
def q523 : OpdF := kC (.int .u32 (.ofNat (nat_lit 2)))
def q524 : OpdF := kC (.int .u32 (.ofNat (nat_lit 1)))
def q525 : OpdF := kC (.int .u32 (.ofNat (nat_lit 48)))
noncomputable def k284 : KFun := ⟨[], (kSeq (oSet (xMove g0) p17 
(oSet (xLook (lkLen .sl g17)) p18 
(oSet (xMove g18) p4 
oEnd))) (kSeq (kBlock (nat_lit 0) (kLoop (kSeq (kSeq (oSet (xMove g4) p19 
(oSet (xLook (lkBin .geq g19 q45)) p20 
oEnd)) (kCond g20 kSkip (kExit (nat_lit 0)))) (kBlock (nat_lit 1) (kSeq (oSet (xMove g1) p21 
(oSet (xLook (lkBin .rem g21 q520)) p22 
(oSet (xLook (lkIntTo .u32 g22)) p23 
(oSet (xMove g23) p5 
oEnd)))) (kSeq (oSet (xMove g1) p24 
(oSet (xLook (lkBin .quo g24 q520)) p25 
(oSet (xMove g25) p1 
oEnd))) (kSeq (oSet (xMove g5) p26 
(oSet (xLook (lkBin .quo g26 q521)) p27 
(oSet (xMove g5) p28 
(oSet (xLook (lkBin .rem g28 q521)) p29 
(oSet (xMove g27) p6 
(oSet (xMove g29) p7 
oEnd)))))) (kSeq (oSet (xMove g7) p30 
(oSet (xLook (lkBin .quo g30 q522)) p31 
(oSet (xLook (lkBin .mul g31 q523)) p32 
(oSet (xMove g7) p33 
(oSet (xLook (lkBin .rem g33 q522)) p34 
(oSet (xLook (lkBin .mul g34 q523)) p35 
(oSet (xMove g32) p8 
(oSet (xMove g35) p9 
oEnd)))))))) (kSeq (oSet (xMove g6) p36 
(oSet (xLook (lkBin .quo g36 q522)) p37 
(oSet (xLook (lkBin .mul g37 q523)) p38 
(oSet (xMove g6) p39 
(oSet (xLook (lkBin .rem g39 q522)) p40 
(oSet (xLook (lkBin .mul g40 q523)) p41 
(oSet (xMove g38) p10 
(oSet (xMove g41) p11 
oEnd)))))))) (kSeq (kDraw 
(dLook (nat_lit 0) [] [] (lkMove g0) p42 
(dLook (nat_lit 1) [] [] (lkMove g4) p43 
(dLook (nat_lit 2) [] [] (lkBin .sub g43 q16) p44 
(dLook (nat_lit 3) [] [] (lkMove g0) p45 
(dLook (nat_lit 4) [] [] (lkMove g4) p46 
(dLook (nat_lit 5) [] [] (lkBin .sub g46 q18) p47 
(dLook (nat_lit 6) [] [] (lkMove g9) p48 
(dLook (nat_lit 7) [] [] (lkBin .add g48 q524) p49 
(dLook (nat_lit 8) [] [] (lkIxStr q517 g49) p50 
(dLook (nat_lit 9) [] [] (lkMove g9) p51 
(dLook (nat_lit 10) [] [] (lkIxStr q517 g51) p52 
(dLook (nat_lit 11) [] [] (lkIxSl (nat_lit 1) g42 g44) p53 
(dTurn (nat_lit 12) [] [] true (xTurn (tnStore (nat_lit 1) g53 g50)) noDst 
(dLook (nat_lit 13) [] [(nat_lit 12)] (lkIxSl (nat_lit 1) g45 g47) p54 
(dTurn (nat_lit 14) [] [(nat_lit 12)] true (xTurn (tnStore (nat_lit 1) g54 g52)) noDst (dEnd [(nat_lit 42), (nat_lit 43), (nat_lit 44), (nat_lit 45), (nat_lit 46), (nat_lit 47), (nat_lit 48), (nat_lit 49), (nat_lit 50), (nat_lit 51), (nat_lit 52), (nat_lit 53), (nat_lit 54)]))))))))))))))))) (kSeq (kDraw 
(dLook (nat_lit 0) [] [] (lkMove g0) p55 
(dLook (nat_lit 1) [] [] (lkMove g4) p56 
(dLook (nat_lit 2) [] [] (lkBin .sub g56 q7) p57 
(dLook (nat_lit 3) [] [] (lkMove g0) p58 
(dLook (nat_lit 4) [] [] (lkMove g4) p59 
(dLook (nat_lit 5) [] [] (lkBin .sub g59 q17) p60 
(dLook (nat_lit 6) [] [] (lkMove g8) p61 
(dLook (nat_lit 7) [] [] (lkBin .add g61 q524) p62 
(dLook (nat_lit 8) [] [] (lkIxStr q517 g62) p63 
(dLook (nat_lit 9) [] [] (lkMove g8) p64 
(dLook (nat_lit 10) [] [] (lkIxStr q517 g64) p65 
(dLook (nat_lit 11) [] [] (lkIxSl (nat_lit 1) g55 g57) p66 
(dTurn (nat_lit 12) [] [] true (xTurn (tnStore (nat_lit 1) g66 g63)) noDst 
(dLook (nat_lit 13) [] [(nat_lit 12)] (lkIxSl (nat_lit 1) g58 g60) p67 
(dTurn (nat_lit 14) [] [(nat_lit 12)] true (xTurn (tnStore (nat_lit 1) g67 g65)) noDst (dEnd [(nat_lit 55), (nat_lit 56), (nat_lit 57), (nat_lit 58), (nat_lit 59), (nat_lit 60), (nat_lit 61), (nat_lit 62), (nat_lit 63), (nat_lit 64), (nat_lit 65), (nat_lit 66), (nat_lit 67)]))))))))))))))))) (kSeq (kDraw 
(dLook (nat_lit 0) [] [] (lkMove g0) p68 
(dLook (nat_lit 1) [] [] (lkMove g4) p69 
(dLook (nat_lit 2) [] [] (lkBin .sub g69 q19) p70 
(dLook (nat_lit 3) [] [] (lkMove g0) p71 
(dLook (nat_lit 4) [] [] (lkMove g4) p72 
(dLook (nat_lit 5) [] [] (lkBin .sub g72 q20) p73 
(dLook (nat_lit 6) [] [] (lkMove g11) p74 
(dLook (nat_lit 7) [] [] (lkBin .add g74 q524) p75 
(dLook (nat_lit 8) [] [] (lkIxStr q517 g75) p76 
(dLook (nat_lit 9) [] [] (lkMove g11) p77 
(dLook (nat_lit 10) [] [] (lkIxStr q517 g77) p78 
(dLook (nat_lit 11) [] [] (lkIxSl (nat_lit 1) g68 g70) p79 
(dTurn (nat_lit 12) [] [] true (xTurn (tnStore (nat_lit 1) g79 g76)) noDst 
(dLook (nat_lit 13) [] [(nat_lit 12)] (lkIxSl (nat_lit 1) g71 g73) p80 
(dTurn (nat_lit 14) [] [(nat_lit 12)] true (xTurn (tnStore (nat_lit 1) g80 g78)) noDst (dEnd [(nat_lit 68), (nat_lit 69), (nat_lit 70), (nat_lit 71), (nat_lit 72), (nat_lit 73), (nat_lit 74), (nat_lit 75), (nat_lit 76), (nat_lit 77), (nat_lit 78), (nat_lit 79), (nat_lit 80)]))))))))))))))))) (kSeq (kDraw 
(dLook (nat_lit 0) [] [] (lkMove g0) p81 
(dLook (nat_lit 1) [] [] (lkMove g4) p82 
(dLook (nat_lit 2) [] [] (lkBin .sub g82 q22) p83 
(dLook (nat_lit 3) [] [] (lkMove g0) p84 
(dLook (nat_lit 4) [] [] (lkMove g4) p85 
(dLook (nat_lit 5) [] [] (lkBin .sub g85 q45) p86 
(dLook (nat_lit 6) [] [] (lkMove g10) p87 
(dLook (nat_lit 7) [] [] (lkBin .add g87 q524) p88 
(dLook (nat_lit 8) [] [] (lkIxStr q517 g88) p89 
(dLook (nat_lit 9) [] [] (lkMove g10) p90 
(dLook (nat_lit 10) [] [] (lkIxStr q517 g90) p91 
(dLook (nat_lit 11) [] [] (lkIxSl (nat_lit 1) g81 g83) p92 
(dTurn (nat_lit 12) [] [] true (xTurn (tnStore (nat_lit 1) g92 g89)) noDst 
(dLook (nat_lit 13) [] [(nat_lit 12)] (lkIxSl (nat_lit 1) g84 g86) p93 
(dTurn (nat_lit 14) [] [(nat_lit 12)] true (xTurn (tnStore (nat_lit 1) g93 g91)) noDst (dEnd [(nat_lit 81), (nat_lit 82), (nat_lit 83), (nat_lit 84), (nat_lit 85), (nat_lit 86), (nat_lit 87), (nat_lit 88), (nat_lit 89), (nat_lit 90), (nat_lit 91), (nat_lit 92), (nat_lit 93)]))))))))))))))))) (oSet (xMove g4) p94 
(oSet (xLook (lkBin .sub g94 q45)) p95 
(oSet (xMove g95) p4 
oEnd)))))))))))))))) (kSeq (oSet (xMove g1) p96 
(oSet (xLook (lkIntTo .u32 g96)) p97 
(oSet (xMove g97) p12 
oEnd))) (kSeq (kSeq (oSet (xMove g4) p98 
(oSet (xLook (lkBin .geq g98 q17)) p99 
oEnd)) (kCond g99 (kSeq (oSet (xMove g12) p100 
(oSet (xLook (lkBin .rem g100 q521)) p101 
(oSet (xMove g101) p13 
oEnd))) (kSeq (oSet (xMove g12) p102 
(oSet (xLook (lkBin .quo g102 q521)) p103 
(oSet (xMove g103) p12 
oEnd))) (kSeq (oSet (xMove g13) p104 
(oSet (xLook (lkBin .quo g104 q522)) p105 
(oSet (xLook (lkBin .mul g105 q523)) p106 
(oSet (xMove g13) p107 
(oSet (xLook (lkBin .rem g107 q522)) p108 
(oSet (xLook (lkBin .mul g108 q523)) p109 
(oSet (xMove g106) p14 
(oSet (xMove g109) p15 
oEnd)))))))) (kSeq (kDraw 
(dLook (nat_lit 0) [] [] (lkMove g0) p110 
(dLook (nat_lit 1) [] [] (lkMove g4) p111 
(dLook (nat_lit 2) [] [] (lkBin .sub g111 q16) p112 
(dLook (nat_lit 3) [] [] (lkMove g0) p113 
(dLook (nat_lit 4) [] [] (lkMove g4) p114 
(dLook (nat_lit 5) [] [] (lkBin .sub g114 q18) p115 
(dLook (nat_lit 6) [] [] (lkMove g15) p116 
(dLook (nat_lit 7) [] [] (lkBin .add g116 q524) p117 
(dLook (nat_lit 8) [] [] (lkIxStr q517 g117) p118 
(dLook (nat_lit 9) [] [] (lkMove g15) p119 
(dLook (nat_lit 10) [] [] (lkIxStr q517 g119) p120 
(dLook (nat_lit 11) [] [] (lkIxSl (nat_lit 1) g110 g112) p121 
(dTurn (nat_lit 12) [] [] true (xTurn (tnStore (nat_lit 1) g121 g118)) noDst 
(dLook (nat_lit 13) [] [(nat_lit 12)] (lkIxSl (nat_lit 1) g113 g115) p122 
(dTurn (nat_lit 14) [] [(nat_lit 12)] true (xTurn (tnStore (nat_lit 1) g122 g120)) noDst (dEnd [(nat_lit 110), (nat_lit 111), (nat_lit 112), (nat_lit 113), (nat_lit 114), (nat_lit 115), (nat_lit 116), (nat_lit 117), (nat_lit 118), (nat_lit 119), (nat_lit 120), (nat_lit 121), (nat_lit 122)]))))))))))))))))) (kSeq (kDraw 
(dLook (nat_lit 0) [] [] (lkMove g0) p123 
(dLook (nat_lit 1) [] [] (lkMove g4) p124 
(dLook (nat_lit 2) [] [] (lkBin .sub g124 q7) p125 
(dLook (nat_lit 3) [] [] (lkMove g0) p126 
(dLook (nat_lit 4) [] [] (lkMove g4) p127 
(dLook (nat_lit 5) [] [] (lkBin .sub g127 q17) p128 
(dLook (nat_lit 6) [] [] (lkMove g14) p129 
(dLook (nat_lit 7) [] [] (lkBin .add g129 q524) p130 
(dLook (nat_lit 8) [] [] (lkIxStr q517 g130) p131 
(dLook (nat_lit 9) [] [] (lkMove g14) p132 
(dLook (nat_lit 10) [] [] (lkIxStr q517 g132) p133 
(dLook (nat_lit 11) [] [] (lkIxSl (nat_lit 1) g123 g125) p134 
(dTurn (nat_lit 12) [] [] true (xTurn (tnStore (nat_lit 1) g134 g131)) noDst 
(dLook (nat_lit 13) [] [(nat_lit 12)] (lkIxSl (nat_lit 1) g126 g128) p135 
(dTurn (nat_lit 14) [] [(nat_lit 12)] true (xTurn (tnStore (nat_lit 1) g135 g133)) noDst (dEnd [(nat_lit 123), (nat_lit 124), (nat_lit 125), (nat_lit 126), (nat_lit 127), (nat_lit 128), (nat_lit 129), (nat_lit 130), (nat_lit 131), (nat_lit 132), (nat_lit 133), (nat_lit 134), (nat_lit 135)]))))))))))))))))) (oSet (xMove g4) p136 
(oSet (xLook (lkBin .sub g136 q17)) p137 
(oSet (xMove g137) p4 
oEnd)))))))) kSkip)) (kSeq (kSeq (oSet (xMove g4) p138 
(oSet (xLook (lkBin .geq g138 q18)) p139 
oEnd)) (kCond g139 (kSeq (oSet (xMove g12) p140 
(oSet (xLook (lkBin .rem g140 q522)) p141 
(oSet (xLook (lkBin .mul g141 q523)) p142 
(oSet (xMove g142) p16 
oEnd)))) (kSeq (oSet (xMove g12) p143 
(oSet (xLook (lkBin .quo g143 q522)) p144 
(oSet (xMove g144) p12 
oEnd))) (kSeq (kDraw 
(dLook (nat_lit 0) [] [] (lkMove g0) p145 
(dLook (nat_lit 1) [] [] (lkMove g4) p146 
(dLook (nat_lit 2) [] [] (lkBin .sub g146 q16) p147 
(dLook (nat_lit 3) [] [] (lkMove g0) p148 
(dLook (nat_lit 4) [] [] (lkMove g4) p149 
(dLook (nat_lit 5) [] [] (lkBin .sub g149 q18) p150 
(dLook (nat_lit 6) [] [] (lkMove g16) p151 
(dLook (nat_lit 7) [] [] (lkBin .add g151 q524) p152 
(dLook (nat_lit 8) [] [] (lkIxStr q517 g152) p153 
(dLook (nat_lit 9) [] [] (lkMove g16) p154 
(dLook (nat_lit 10) [] [] (lkIxStr q517 g154) p155 
(dLook (nat_lit 11) [] [] (lkIxSl (nat_lit 1) g145 g147) p156 
(dTurn (nat_lit 12) [] [] true (xTurn (tnStore (nat_lit 1) g156 g153)) noDst 
(dLook (nat_lit 13) [] [(nat_lit 12)] (lkIxSl (nat_lit 1) g148 g150) p157 
(dTurn (nat_lit 14) [] [(nat_lit 12)] true (xTurn (tnStore (nat_lit 1) g157 g155)) noDst (dEnd [(nat_lit 145), (nat_lit 146), (nat_lit 147), (nat_lit 148), (nat_lit 149), (nat_lit 150), (nat_lit 151), (nat_lit 152), (nat_lit 153), (nat_lit 154), (nat_lit 155), (nat_lit 156), (nat_lit 157)]))))))))))))))))) (oSet (xMove g4) p158 
(oSet (xLook (lkBin .sub g158 q18)) p159 
(oSet (xMove g159) p4 
oEnd)))))) kSkip)) (kSeq (oSet (xMove g4) p160 
(oSet (xLook (lkBin .gtr g160 q10)) p161 
oEnd)) (kCond g161 (oSet (xMove g0) p162 
(oSet (xMove g12) p163 
(oSet (xLook (lkBin .add q525 g163)) p164 
(oSet (xLook (lkIntTo .u8 g164)) p165 
(oSet (xLook (lkIxSl (nat_lit 1) g162 q10)) p166 
(oDo (xTurn (tnStore (nat_lit 1) g166 g165)) 
oEnd)))))) kSkip)))))))⟩
def q526 : OpdF := kC (.int .i64 (.ofNat (nat_lit 36)))
def q527 : OpdF := kC (.string ⟨⟨[115, 116, 114, 99, 111, 110, 118, 58, 32, 105, 108, 108, 101, 103, 97, 108, 32, 65, 112, 112, 101, 110, 100, 73, 110, 116, 47, 70, 111, 114, 109, 97, 116, 73, 110, 116, 32, 98, 97, 115, 101]⟩⟩)
def q528 : List Value := [(.int .u8 (.ofNat (nat_lit 0))), (.int .u8 (.ofNat (nat_lit 0))), (.int .u8 (.ofNat (nat_lit 0))), (.int .u8 (.ofNat (nat_lit 0))), (.int .u8 (.ofNat (nat_lit 0))), (.int .u8 (.ofNat (nat_lit 0))), (.int .u8 (.ofNat (nat_lit 0))), (.int .u8 (.ofNat (nat_lit 0))), (.int .u8 (.ofNat (nat_lit 0))), (.int .u8 (.ofNat (nat_lit 0))), (.int .u8 (.ofNat (nat_lit 0))), (.int .u8 (.ofNat (nat_lit 0))), (.int .u8 (.ofNat (nat_lit 0))), (.int .u8 (.ofNat (nat_lit 0))), (.int .u8 (.ofNat (nat_lit 0))), (.int .u8 (.ofNat (nat_lit 0))), (.int .u8 (.ofNat (nat_lit 0))), (.int .u8 (.ofNat (nat_lit 0))), (.int .u8 (.ofNat (nat_lit 0))), (.int .u8 (.ofNat (nat_lit 0))), (.int .u8 (.ofNat (nat_lit 0))), (.int .u8 (.ofNat (nat_lit 0))), (.int .u8 (.ofNat (nat_lit 0))), (.int .u8 (.ofNat (nat_lit 0))), (.int .u8 (.ofNat (nat_lit 0))), (.int .u8 (.ofNat (nat_lit 0))), (.int .u8 (.ofNat (nat_lit 0))), (.int .u8 (.ofNat (nat_lit 0))), (.int .u8 (.ofNat (nat_lit 0))), (.int .u8 (.ofNat (nat_lit 0))), (.int .u8 (.ofNat (nat_lit 0))), (.int .u8 (.ofNat (nat_lit 0))), (.int .u8 (.ofNat (nat_lit 0))), (.int .u8 (.ofNat (nat_lit 0))), (.int .u8 (.ofNat (nat_lit 0))), (.int .u8 (.ofNat (nat_lit 0))), (.int .u8 (.ofNat (nat_lit 0))), (.int .u8 (.ofNat (nat_lit 0))), (.int .u8 (.ofNat (nat_lit 0))), (.int .u8 (.ofNat (nat_lit 0))), (.int .u8 (.ofNat (nat_lit 0))), (.int .u8 (.ofNat (nat_lit 0))), (.int .u8 (.ofNat (nat_lit 0))), (.int .u8 (.ofNat (nat_lit 0))), (.int .u8 (.ofNat (nat_lit 0))), (.int .u8 (.ofNat (nat_lit 0))), (.int .u8 (.ofNat (nat_lit 0))), (.int .u8 (.ofNat (nat_lit 0))), (.int .u8 (.ofNat (nat_lit 0))), (.int .u8 (.ofNat (nat_lit 0))), (.int .u8 (.ofNat (nat_lit 0))), (.int .u8 (.ofNat (nat_lit 0))), (.int .u8 (.ofNat (nat_lit 0))), (.int .u8 (.ofNat (nat_lit 0))), (.int .u8 (.ofNat (nat_lit 0))), (.int .u8 (.ofNat (nat_lit 0))), (.int .u8 (.ofNat (nat_lit 0))), (.int .u8 (.ofNat (nat_lit 0))), (.int .u8 (.ofNat (nat_lit 0))), (.int .u8 (.ofNat (nat_lit 0))), (.int .u8 (.ofNat (nat_lit 0))), (.int .u8 (.ofNat (nat_lit 0))), (.int .u8 (.ofNat (nat_lit 0))), (.int .u8 (.ofNat (nat_lit 0))), (.int .u8 (.ofNat (nat_lit 0)))]
def q529 : OpdF := kC (.int .i64 (.ofNat (nat_lit 65)))
def q530 : OpdF := kC (.func (.func (nat_lit 308)) ⟨[]⟩ ⟨[]⟩)
def q531 : OpdF := kC (.func (.func (nat_lit 309)) ⟨[]⟩ ⟨[]⟩)
noncomputable def k285 : KFun := ⟨[rTmp (nat_lit 10) g10, rTmp (nat_lit 11) g11], (kSeq (oSet (xMove q12) p10 
(oSet (xMove q33) p11 
oEnd)) (kSeq (kSeq (oSet (xMove g2) p19 
(oSet (xLook (lkBin .lss g19 q18)) p20 
(oSet (xMove g20) p21 
(oSetIf (wantF g21) (xMove g2) p22 
(oSetIf (wantF g21) (xLook (lkEq false .int g22 q103)) p23 
(oSet (xLook (lkPick g21 q30 g23)) p24 
(oSet (xMove g24) p25 
(oSetIf (wantF g25) (xMove g2) p26 
(oSetIf (wantF g25) (xLook (lkBin .gtr g26 q526)) p27 
(oSet (xLook (lkPick g25 q30 g27)) p28 
oEnd)))))))))) (kCond g28 (oSet (xLook (lkMkIface (nat_lit 9) q527)) p29 
(oDo (xPanic g29) 
oEnd)) kSkip)) (kSeq (oSet (xTurn (tnAlloc q528)) p12 
oEnd) (kSeq (oSet (xMove q529) p13 
oEnd) (kSeq (kSeq (oSet (xMove g3) p30 
oEnd) (kCond g30 (oSet (xMove g1) p31 
(oSet (xLook (lkUn .neg g31)) p32 
(oSet (xMove g32) p1 
oEnd))) kSkip)) (kSeq (kSeq (oSet (xMove g2) p33 
(oSet (xCall q530 [g33]) p34 
oEnd)) (kCond g34 (kSeq (oSet (xMove g2) p35 
(oSet (xLook (lkIntTo .u64 g35)) p36 
(oSet (xCall q531 [g36]) p37 
(oSet (xLook (lkIntTo .u64 g37)) p38 
(oSet (xMove g38) p14 
oEnd))))) (kSeq (oSet (xMove g2) p39 
(oSet (xLook (lkIntTo .u64 g39)) p40 
(oSet (xMove g40) p15 
oEnd))) (kSeq (oSet (xMove g2) p41 
(oSet (xLook (lkIntTo .u64 g41)) p42 
(oSet (xLook (lkBin .sub g42 q322)) p43 
(oSet (xMove g43) p16 
oEnd)))) (kSeq (kBlock (nat_lit 0) (kLoop (kSeq (kSeq (oSet (xMove g1) p44 
(oSet (xMove g15) p45 
(oSet (xLook (lkBin .geq g44 g45)) p46 
oEnd))) (kCond g46 kSkip (kExit (nat_lit 0)))) (kBlock (nat_lit 1) (kSeq (oSet (xMove g13) p47 
(oSet (xLook (lkBin .sub g47 q16)) p48 
(oSet (xMove g48) p13 
oEnd))) (kSeq (oSet (xMove g13) p49 
(oSet (xMove g1) p50 
(oSet (xMove g16) p51 
(oSet (xLook (lkBin .and g50 g51)) p52 
(oSet (xLook (lkIxStr q516 g52)) p53 
(oSet (xLook (lkIxArr (nat_lit 65) (nat_lit 1) g12 g49)) p54 
(oDo (xTurn (tnStore (nat_lit 1) g54 g53)) 
oEnd))))))) (oSet (xMove g1) p55 
(oSet (xMove g14) p56 
(oSet (xLook (lkBin .shr g55 g56)) p57 
(oSet (xMove g57) p1 
oEnd)))))))))) (kSeq (oSet (xMove g13) p58 
(oSet (xLook (lkBin .sub g58 q16)) p59 
(oSet (xMove g59) p13 
oEnd))) (oSet (xMove g13) p60 
(oSet (xMove g1) p61 
(oSet (xLook (lkIxStr q516 g61)) p62 
(oSet (xLook (lkIxArr (nat_lit 65) (nat_lit 1) g12 g60)) p63 
(oDo (xTurn (tnStore (nat_lit 1) g63 g62)) 
oEnd)))))))))) (kSeq (oSet (xMove g2) p64 
(oSet (xLook (lkIntTo .u64 g64)) p65 
(oSet (xMove g65) p17 
oEnd))) (kSeq (kBlock (nat_lit 2) (kLoop (kSeq (kSeq (oSet (xMove g1) p66 
(oSet (xMove g17) p67 
(oSet (xLook (lkBin .geq g66 g67)) p68 
oEnd))) (kCond g68 kSkip (kExit (nat_lit 2)))) (kBlock (nat_lit 3) (kSeq (oSet (xMove g13) p69 
(oSet (xLook (lkBin .sub g69 q16)) p70 
(oSet (xMove g70) p13 
oEnd))) (kSeq (oSet (xMove g1) p71 
(oSet (xMove g17) p72 
(oSet (xLook (lkBin .quo g71 g72)) p73 
(oSet (xMove g73) p18 
oEnd)))) (kSeq (oSet (xMove g13) p74 
(oSet (xMove g1) p75 
(oSet (xMove g18) p76 
(oSet (xMove g17) p77 
(oSet (xLook (lkBin .mul g76 g77)) p78 
(oSet (xLook (lkBin .sub g75 g78)) p79 
(oSet (xLook (lkIxStr q516 g79)) p80 
(oSet (xLook (lkIxArr (nat_lit 65) (nat_lit 1) g12 g74)) p81 
(oDo (xTurn (tnStore (nat_lit 1) g81 g80)) 
oEnd))))))))) (oSet (xMove g18) p82 
(oSet (xMove g82) p1 
oEnd))))))))) (kSeq (oSet (xMove g13) p83 
(oSet (xLook (lkBin .sub g83 q16)) p84 
(oSet (xMove g84) p13 
oEnd))) (oSet (xMove g13) p85 
(oSet (xMove g1) p86 
(oSet (xLook (lkIxStr q516 g86)) p87 
(oSet (xLook (lkIxArr (nat_lit 65) (nat_lit 1) g12 g85)) p88 
(oDo (xTurn (tnStore (nat_lit 1) g88 g87)) 
oEnd)))))))))) (kSeq (kSeq (oSet (xMove g3) p89 
oEnd) (kCond g89 (kSeq (oSet (xMove g13) p90 
(oSet (xLook (lkBin .sub g90 q16)) p91 
(oSet (xMove g91) p13 
oEnd))) (oSet (xMove g13) p92 
(oSet (xLook (lkIxArr (nat_lit 65) (nat_lit 1) g12 g92)) p93 
(oDo (xTurn (tnStore (nat_lit 1) g93 q427)) 
oEnd)))) kSkip)) (kSeq (kSeq (oSet (xMove g4) p94 
oEnd) (kCond g94 (kSeq (oSet (xMove g0) p95 
(oSet (xMove g13) p96 
(oSet (xLook (lkSliceArr (nat_lit 65) (nat_lit 1) g12 (some g96) none none)) p97 
(oSet (xTurn (tnAppend (nat_lit 1) g95 g97)) p98 
(oSet (xMove g98) p10 
oEnd))))) kRet) kSkip)) (kSeq (oSet (xMove g13) p99 
(oSet (xLook (lkSliceArr (nat_lit 65) (nat_lit 1) g12 (some g99) none none)) p100 
(oSet (xLook (lkBytesTo g100)) p101 
(oSet (xMove g101) p11 
oEnd)))) kRet)))))))))⟩
noncomputable def k288 : KFun := ⟨[rTmp (nat_lit 4) g4], (kSeq (oSet (xMove q33) p4 
oEnd) (kSeq (kSeq (oSet (xMove g0) p5 
(oSet (xMove g1) p6 
(oSet (xNil g5) p7 
(oSet (xLook (lkFieldAddr (nat_lit 0) g7)) p8 
(oSet (xLook (lkFieldAddr (nat_lit 0) g8)) p9 
(oSet (xLook (lkIxArr (nat_lit 8) (nat_lit 1) g9 g6)) p10 
(oSet (xLook (lkLoad1 g10)) p11 
(oSet (xCall q272 [g11]) p12 
(oSet (xLook (lkUn .not g12)) p13 
oEnd))))))))) (kCond g13 (oSet (xLook (lkBuild q9 [((nat_lit 0), (nat_lit 1), q7)])) p14 
(oSet (xLook (lkMkIface (nat_lit 314) g14)) p15 
(oDo (xPanic g15) 
oEnd))) kSkip)) (kSeq (oSet (xMove g0) p16 
(oSet (xMove g1) p17 
(oSet (xNil g16) p18 
(oSet (xLook (lkFieldAddr (nat_lit 0) g18)) p19 
(oSet (xLook (lkFieldAddr (nat_lit 0) g19)) p20 
(oSet (xLook (lkIxArr (nat_lit 8) (nat_lit 1) g20 g17)) p21 
(oSet (xLook (lkLoad1 g21)) p22 
(oSet (xMove g22) p4 
oEnd)))))))) kRet)))⟩
noncomputable def k290 : KFun := ⟨[], (kSeq (oSet (xTurn (tnBox g1)) p3 
oEnd) (kDraw 
(dLook (nat_lit 0) [] [] (lkMove g0) p4 
(dTurn (nat_lit 1) [] [] false (xNil g4) p5 
(dLook (nat_lit 2) [] [] (lkFieldAddr (nat_lit 0) g5) p6 
(dLook (nat_lit 3) [] [] (lkLoad1 g6) p7 
(dLook (nat_lit 4) [] [] (lkFieldAddr (nat_lit 0) g3) p8 
(dLook (nat_lit 5) [] [] (lkLoad1 g8) p9 
(dLook (nat_lit 6) [] [] (lkLoadN (nat_lit 3) g3) p10 
(dTurn (nat_lit 7) [] [] true (xTurn (tnMapUpdate (.one .str) g7 g9 g10)) noDst (dEnd [(nat_lit 4), (nat_lit 5), (nat_lit 6), (nat_lit 7), (nat_lit 8), (nat_lit 9), (nat_lit 10)])))))))))))⟩
noncomputable def k297 : KFun := ⟨[rTmp (nat_lit 4) g4], (kSeq (oSet (xMove q10) p4 
oEnd) (kSeq (kSeq (oSet (xMove g0) p6 
(oSet (xLook (lkLen .sl g6)) p7 
(oSet (xMove q10) p8 
oEnd))) (kBlock (nat_lit 0) (kLoop (kSeq (oSet (xLook (lkBin .lss g8 g7)) p9 
oEnd) (kSeq (kCond g9 kSkip (kExit (nat_lit 0))) (kSeq (kBlock (nat_lit 1) (kSeq (oSet (xMove g8) p10 
(oSet (xMove g10) p5 
oEnd)) (kSeq (oSet (xMove g1) p11 
(oSet (xMove g0) p12 
(oSet (xMove g5) p13 
(oSet (xLook (lkIxSl (nat_lit 2) g12 g13)) p14 
(oSet (xLook (lkLoadN (nat_lit 2) g14)) p15 
(oSet (xCall g11 [g15]) p16 
oEnd)))))) (kCond g16 (kSeq (oSet (xMove g5) p17 
(oSet (xMove g17) p4 
oEnd)) kRet) kSkip)))) (oSet (xLook (lkBin .add g8 q16)) p18 
(oSet (xMove g18) p8 
oEnd)))))))) (kSeq (oSet (xMove q41) p4 
oEnd) kRet)))⟩
def q535 : OpdF := kC (.func (.func (nat_lit 313)) ⟨[]⟩ ⟨[]⟩)
def q536 : OpdF := kC (.func (.func (nat_lit 314)) ⟨[]⟩ ⟨[]⟩)
def q537 : OpdF := kC (.func (.func (nat_lit 315)) ⟨[]⟩ ⟨[]⟩)
def q538 : OpdF := kC (.func (.func (nat_lit 316)) ⟨[]⟩ ⟨[]⟩)
def q539 : OpdF := kC (.func (.func (nat_lit 317)) ⟨[]⟩ ⟨[]⟩)
def q540 : OpdF := kC (.func (.func (nat_lit 318)) ⟨[]⟩ ⟨[]⟩)
noncomputable def k298d0 : KD := 
(dLook (nat_lit 16) [] [(nat_lit 13)] (lkPick g83 g96 q0) p97 (dEnd [(nat_lit 81), (nat_lit 82), (nat_lit 83), (nat_lit 84), (nat_lit 85), (nat_lit 86), (nat_lit 87), (nat_lit 88), (nat_lit 89), (nat_lit 90), (nat_lit 91), (nat_lit 92), (nat_lit 93), (nat_lit 94), (nat_lit 95), (nat_lit 96), (nat_lit 97)]))
noncomputable def k298d1 : KD := 
(dIf [(nat_lit 13)] (wantT g83) p96 (dLook (nat_lit 15) [] [(nat_lit 13)] (lkUn .not g95) p96 k298d0) k298d0)
noncomputable def k298d2 : KD := 
(dIf [(nat_lit 13)] (wantT g83) p95 (dLook (nat_lit 14) [] [(nat_lit 13)] (lkBin .lss g94 q10) p95 k298d1) k298d1)
noncomputable def k298d3 : KD := 
(dIf [] (wantT g83) p94 (dTurn (nat_lit 13) [] [] true (xCall g84 [g89, g93]) p94 k298d2) k298d2)
noncomputable def k298d4 : KD := 
(dIf [] (wantT g83) p93 (dLook (nat_lit 12) [] [] (lkLoadN (nat_lit 2) g92) p93 k298d3) k298d3)
noncomputable def k298d5 : KD := 
(dIf [] (wantT g83) p92 (dLook (nat_lit 11) [] [] (lkIxSl (nat_lit 2) g90 g91) p92 k298d4) k298d4)
noncomputable def k298d6 : KD := 
(dIf [] (wantT g83) p91 (dLook (nat_lit 10) [] [] (lkMove g13) p91 k298d5) k298d5)
noncomputable def k298d7 : KD := 
(dIf [] (wantT g83) p90 (dLook (nat_lit 9) [] [] (lkMove g0) p90 k298d6) k298d6)
noncomputable def k298d8 : KD := 
(dIf [] (wantT g83) p89 (dLook (nat_lit 8) [] [] (lkLoadN (nat_lit 2) g88) p89 k298d7) k298d7)
noncomputable def k298d9 : KD := 
(dIf [] (wantT g83) p88 (dLook (nat_lit 7) [] [] (lkIxSl (nat_lit 2) g85 g87) p88 k298d8) k298d8)
noncomputable def k298d10 : KD := 
(dIf [] (wantT g83) p87 (dLook (nat_lit 6) [] [] (lkBin .sub g86 q16) p87 k298d9) k298d9)
noncomputable def k298d11 : KD := 
(dIf [] (wantT g83) p86 (dLook (nat_lit 5) [] [] (lkMove g1) p86 k298d10) k298d10)
noncomputable def k298d12 : KD := 
(dIf [] (wantT g83) p85 (dLook (nat_lit 4) [] [] (lkMove g0) p85 k298d11) k298d11)
def q541 : OpdF := kC (.func (.func (nat_lit 319)) ⟨[]⟩ ⟨[]⟩)
def q542 : OpdF := kC (.func (.func (nat_lit 320)) ⟨[]⟩ ⟨[]⟩)
noncomputable def k298 : KFun := ⟨[], (kSeq (oSet (xMove q30) p10 
oEnd) (kSeq (oSet (xMove q30) p11 
oEnd) (kBlock (nat_lit 0) (kLoop (kBlock (nat_lit 1) (kSeq (oSet (xMove g2) p21 
(oSet (xMove g1) p22 
(oSet (xLook (lkBin .sub g21 g22)) p23 
(oSet (xMove g23) p12 
oEnd)))) (kSeq (kSeq (oSet (xMove g12) p24 
(oSet (xLook (lkBin .leq g24 q155)) p25 
oEnd)) (kCond g25 (kSeq (oSet (xMove g0) p26 
(oSet (xMove g1) p27 
(oSet (xMove g2) p28 
(oSet (xMove g4) p29 
(oSet (xCall q535 [g26, g27, g28, g29]) p30 
oEnd))))) kRet) kSkip)) (kSeq (kSeq (oSet (xMove g3) p31 
(oSet (xLook (lkEq false .int g31 q10)) p32 
oEnd)) (kCond g32 (kSeq (oSet (xMove g0) p33 
(oSet (xMove g1) p34 
(oSet (xMove g2) p35 
(oSet (xMove g4) p36 
(oSet (xCall q536 [g33, g34, g35, g36]) p37 
oEnd))))) kRet) kSkip)) (kSeq (kSeq (oSet (xMove g10) p38 
(oSet (xLook (lkUn .not g38)) p39 
oEnd)) (kCond g39 (kSeq (oSet (xMove g0) p40 
(oSet (xMove g1) p41 
(oSet (xMove g2) p42 
(oSet (xMove g4) p43 
(oSet (xCall q537 [g40, g41, g42, g43]) p44 
oEnd))))) (oSet (xMove g3) p45 
(oSet (xLook (lkBin .sub g45 q16)) p46 
(oSet (xMove g46) p3 
oEnd)))) kSkip)) (kSeq (oSet (xMove g0) p48 
(oSet (xMove g1) p49 
(oSet (xMove g2) p50 
(oSet (xMove g4) p51 
(oSet (xCall q538 [g48, g49, g50, g51]) p52 
(oSet (xMove g52) p47 
(oSet (xLook (lkExtract (nat_lit 0) g47)) p53 
(oSet (xLook (lkExtract (nat_lit 1) g47)) p54 
(oSet (xMove g53) p13 
(oSet (xMove g54) p14 
oEnd)))))))))) (kSeq (kSeq (oSet (xMove g14) p55 
(oSet (xLook (lkEq false .int g55 q18)) p56 
oEnd)) (kCond g56 (kSeq (oSet (xMove g0) p57 
(oSet (xMove g1) p58 
(oSet (xMove g2) p59 
(oSet (xMove g4) p60 
(oSet (xCall q539 [g57, g58, g59, g60]) p61 
oEnd))))) (kSeq (oSet (xMove g2) p62 
(oSet (xLook (lkBin .sub g62 q16)) p63 
(oSet (xMove g13) p64 
(oSet (xMove g1) p65 
(oSet (xLook (lkBin .sub g64 g65)) p66 
(oSet (xLook (lkBin .sub g63 g66)) p67 
(oSet (xMove g67) p13 
oEnd))))))) (oSet (xMove q16) p14 
oEnd))) kSkip)) (kSeq (kSeq (oSet (xMove g10) p68 
(oSet (xMove g68) p69 
(oSetIf (wantT g69) (xMove g11) p70 
(oSet (xLook (lkPick g69 g70 q0)) p71 
(oSet (xMove g71) p72 
(oSetIf (wantT g72) (xMove g14) p73 
(oSetIf (wantT g72) (xLook (lkEq false .int g73 q16)) p74 
(oSet (xLook (lkPick g72 g74 q0)) p75 
oEnd)))))))) (kCond g75 (kSeq (oSet (xMove g0) p76 
(oSet (xMove g1) p77 
(oSet (xMove g2) p78 
(oSet (xMove g4) p79 
(oSet (xCall q540 [g76, g77, g78, g79]) p80 
oEnd))))) (kCond g80 kRet kSkip)) kSkip)) (kSeq (kSeq (kDraw 
(dLook (nat_lit 0) [] [] (lkMove g1) p81 
(dLook (nat_lit 1) [] [] (lkBin .gtr g81 q10) p82 
(dLook (nat_lit 2) [] [] (lkMove g82) p83 
(dIf [] (wantT g83) p84 (dLook (nat_lit 3) [] [] (lkMove g4) p84 k298d12) k298d12))))) (kCond g97 (kSeq (oSet (xMove g0) p98 
(oSet (xMove g1) p99 
(oSet (xMove g2) p100 
(oSet (xMove g13) p101 
(oSet (xMove g4) p102 
(oSet (xCall q541 [g98, g99, g100, g101, g102]) p103 
(oSet (xMove g103) p15 
oEnd))))))) (kSeq (oSet (xMove g15) p104 
(oSet (xMove g104) p1 
oEnd)) (kExit (nat_lit 1)))) kSkip)) (kSeq (oSet (xMove g0) p106 
(oSet (xMove g1) p107 
(oSet (xMove g2) p108 
(oSet (xMove g13) p109 
(oSet (xMove g4) p110 
(oSet (xCall q542 [g106, g107, g108, g109, g110]) p111 
(oSet (xMove g111) p105 
(oSet (xLook (lkExtract (nat_lit 0) g105)) p112 
(oSet (xLook (lkExtract (nat_lit 1) g105)) p113 
(oSet (xMove g112) p16 
(oSet (xMove g113) p17 
oEnd))))))))))) (kSeq (oSet (xMove g17) p114 
(oSet (xMove g114) p11 
oEnd)) (kSeq (oSet (xMove g16) p115 
(oSet (xMove g1) p116 
(oSet (xLook (lkBin .sub g115 g116)) p117 
(oSet (xMove g2) p118 
(oSet (xMove g16) p119 
(oSet (xLook (lkBin .sub g118 g119)) p120 
(oSet (xMove g117) p18 
(oSet (xMove g120) p19 
oEnd)))))))) (kSeq (oSet (xMove g12) p121 
(oSet (xLook (lkBin .quo g121 q45)) p122 
(oSet (xMove g122) p20 
oEnd))) (kSeq (oSet (xMove g18) p123 
(oSet (xMove g19) p124 
(oSet (xLook (lkBin .lss g123 g124)) p125 
oEnd))) (kCond g125 (kSeq (oSet (xMove g18) p126 
(oSet (xMove g20) p127 
(oSet (xLook (lkBin .geq g126 g127)) p128 
(oSet (xMove g128) p10 
oEnd)))) (kSeq (oSet (xMove g0) p129 
(oSet (xMove g1) p130 
(oSet (xMove g16) p131 
(oSet (xMove g3) p132 
(oSet (xMove g4) p133 
(oSet (xCall q442 [g129, g130, g131, g132, g133]) p134 
oEnd)))))) (oSet (xMove g16) p135 
(oSet (xLook (lkBin .add g135 q16)) p136 
(oSet (xMove g136) p1 
oEnd))))) (kSeq (oSet (xMove g19) p137 
(oSet (xMove g20) p138 
(oSet (xLook (lkBin .geq g137 g138)) p139 
(oSet (xMove g139) p10 
oEnd)))) (kSeq (oSet (xMove g0) p140 
(oSet (xMove g16) p141 
(oSet (xLook (lkBin .add g141 q16)) p142 
(oSet (xMove g2) p143 
(oSet (xMove g3) p144 
(oSet (xMove g4) p145 
(oSet (xCall q442 [g140, g142, g143, g144, g145]) p146 
oEnd))))))) (oSet (xMove g16) p147 
(oSet (xMove g147) p2 
oEnd)))))))))))))))))))))))⟩
noncomputable def k299 : KFun := ⟨[], (kSeq (oSet (xLook (lkLoad1 g1)) p4 
(oSet (xTurn (tnRangeMap g4)) p5 
oEnd)) (kBlock (nat_lit 0) (kLoop (kSeq (oSet (xNextMap g5) p6 
(oSet (xLook (lkExtract (nat_lit 0) g6)) p7 
oEnd)) (kSeq (kCond g7 kSkip (kExit (nat_lit 0))) (kBlock (nat_lit 1) (kSeq (oSet (xLook (lkEntry g5)) p8 
(oSet (xLook (lkExtract (nat_lit 0) g8)) p9 
(oSet (xMove g9) p3 
oEnd))) (kSeq (oSet (xMove g0) p10 
(oSet (xMove g3) p11 
(oSet (xCall g10 [g11]) p12 
(oSet (xLook (lkUn .not g12)) p13 
oEnd)))) (kCond g13 kRet kSkip)))))))))⟩
def q543 : OpdF := kC (.func (.func (nat_lit 321)) ⟨[]⟩ ⟨[]⟩)
def q544 : OpdF := kC (.func (.func (nat_lit 322)) ⟨[]⟩ ⟨[]⟩)
noncomputable def k300d0 : KD := 
(dLook (nat_lit 14) [] [(nat_lit 3), (nat_lit 8), (nat_lit 12)] (lkPick g27 g36 q0) p37 (dEnd [(nat_lit 23), (nat_lit 24), (nat_lit 25), (nat_lit 26), (nat_lit 27), (nat_lit 28), (nat_lit 29), (nat_lit 30), (nat_lit 31), (nat_lit 32), (nat_lit 33), (nat_lit 34), (nat_lit 35), (nat_lit 36), (nat_lit 37)]))
def q545 : OpdF := kC (.func (.func (nat_lit 324)) ⟨[]⟩ ⟨[]⟩)
noncomputable def k300d1 : KD := 
(dIf [(nat_lit 3), (nat_lit 8), (nat_lit 12)] (wantT g27) p36 (dLook (nat_lit 13) [] [(nat_lit 3), (nat_lit 8), (nat_lit 12)] (lkBin .lss g31 g35) p36 k300d0) k300d0)
noncomputable def k300d2 : KD := 
(dIf [(nat_lit 3), (nat_lit 8)] (wantT g27) p35 (dTurn (nat_lit 12) [] [(nat_lit 3), (nat_lit 8)] true (xCall q545 [g34]) p35 k300d1) k300d1)
noncomputable def k300d3 : KD := 
(dIf [(nat_lit 3)] (wantT g27) p34 (dLook (nat_lit 11) [] [(nat_lit 3)] (lkFieldAddr (nat_lit 0) g33) p34 k300d2) k300d2)
noncomputable def k300d4 : KD := 
(dIf [(nat_lit 3)] (wantT g27) p33 (dTurn (nat_lit 10) [] [(nat_lit 3)] false (xNil g32) p33 k300d3) k300d3)
noncomputable def k300d5 : KD := 
(dIf [(nat_lit 3)] (wantT g27) p32 (dLook (nat_lit 9) [] [(nat_lit 3)] (lkMove g8) p32 k300d4) k300d4)
noncomputable def k300d6 : KD := 
(dIf [(nat_lit 3)] (wantT g27) p31 (dTurn (nat_lit 8) [] [(nat_lit 3)] true (xCall q545 [g30]) p31 k300d5) k300d5)
noncomputable def k300d7 : KD := 
(dIf [(nat_lit 3)] (wantT g27) p30 (dLook (nat_lit 7) [] [(nat_lit 3)] (lkFieldAddr (nat_lit 0) g29) p30 k300d6) k300d6)
noncomputable def k300d8 : KD := 
(dIf [(nat_lit 3)] (wantT g27) p29 (dTurn (nat_lit 6) [] [(nat_lit 3)] false (xNil g28) p29 k300d7) k300d7)
def q546 : OpdF := kC (.func (.func (nat_lit 323)) ⟨[]⟩ ⟨[]⟩)
noncomputable def k300d9 : KD := 
(dLook (nat_lit 14) [] [(nat_lit 3), (nat_lit 8), (nat_lit 12)] (lkPick g46 g55 q0) p56 
(dLook (nat_lit 15) [] [(nat_lit 3), (nat_lit 8), (nat_lit 12)] (lkMove g56) p10 (dEnd [(nat_lit 42), (nat_lit 43), (nat_lit 44), (nat_lit 45), (nat_lit 46), (nat_lit 47), (nat_lit 48), (nat_lit 49), (nat_lit 50), (nat_lit 51), (nat_lit 52), (nat_lit 53), (nat_lit 54), (nat_lit 55), (nat_lit 56), (nat_lit 10)])))
noncomputable def k300d10 : KD := 
(dIf [(nat_lit 3), (nat_lit 8), (nat_lit 12)] (wantT g46) p55 (dLook (nat_lit 13) [] [(nat_lit 3), (nat_lit 8), (nat_lit 12)] (lkEq false .str g50 g54) p55 k300d9) k300d9)
noncomputable def k300d11 : KD := 
(dIf [(nat_lit 3), (nat_lit 8)] (wantT g46) p54 (dTurn (nat_lit 12) [] [(nat_lit 3), (nat_lit 8)] true (xCall q545 [g53]) p54 k300d10) k300d10)
noncomputable def k300d12 : KD := 
(dIf [(nat_lit 3)] (wantT g46) p53 (dLook (nat_lit 11) [] [(nat_lit 3)] (lkFieldAddr (nat_lit 0) g52) p53 k300d11) k300d11)
noncomputable def k300d13 : KD := 
(dIf [(nat_lit 3)] (wantT g46) p52 (dTurn (nat_lit 10) [] [(nat_lit 3)] false (xNil g51) p52 k300d12) k300d12)
noncomputable def k300d14 : KD := 
(dIf [(nat_lit 3)] (wantT g46) p51 (dLook (nat_lit 9) [] [(nat_lit 3)] (lkMove g8) p51 k300d13) k300d13)
noncomputable def k300d15 : KD := 
(dIf [(nat_lit 3)] (wantT g46) p50 (dTurn (nat_lit 8) [] [(nat_lit 3)] true (xCall q545 [g49]) p50 k300d14) k300d14)
noncomputable def k300d16 : KD := 
(dIf [(nat_lit 3)] (wantT g46) p49 (dLook (nat_lit 7) [] [(nat_lit 3)] (lkFieldAddr (nat_lit 0) g48) p49 k300d15) k300d15)
noncomputable def k300d17 : KD := 
(dIf [(nat_lit 3)] (wantT g46) p48 (dTurn (nat_lit 6) [] [(nat_lit 3)] false (xNil g47) p48 k300d16) k300d16)
noncomputable def k300 : KFun := ⟨[rTmp (nat_lit 6) g6], (kSeq (oSet (xMove q12) p6 
oEnd) (kSeq (oSet (xMove q12) p7 
oEnd) (kSeq (oSet (xMove g0) p11 
(oSet (xCall q543 [g11]) p12 
(oSet (xMove g1) p13 
(oSet (xCall q543 [g13]) p14 
(oSet (xMove g12) p8 
(oSet (xMove g14) p9 
oEnd)))))) (kSeq (kBlock (nat_lit 0) (kLoop (kSeq (kSeq (oSet (xMove g8) p15 
(oSet (xNil g15) p16 
(oSet (xLook (lkFieldAddr (nat_lit 0) g16)) p17 
(oSet (xCall q544 [g17]) p18 
oEnd)))) (kCond g18 kSkip (kExit (nat_lit 0)))) (kSeq (kBlock (nat_lit 1) (kSeq (kBlock (nat_lit 2) (kLoop (kSeq (kSeq (kDraw 
(dLook (nat_lit 0) [] [] (lkMove g9) p23 
(dTurn (nat_lit 1) [] [] false (xNil g23) p24 
(dLook (nat_lit 2) [] [] (lkFieldAddr (nat_lit 0) g24) p25 
(dTurn (nat_lit 3) [] [] true (xCall q544 [g25]) p26 
(dLook (nat_lit 4) [] [(nat_lit 3)] (lkMove g26) p27 
(dIf [(nat_lit 3)] (wantT g27) p28 (dLook (nat_lit 5) [] [(nat_lit 3)] (lkMove g9) p28 k300d8) k300d8))))))) (kCond g37 kSkip (kExit (nat_lit 2)))) (kBlock (nat_lit 3) (oSet (xMove g9) p38 
(oSet (xNil g38) p39 
(oSet (xLook (lkFieldAddr (nat_lit 0) g39)) p40 
(oSet (xCall q546 [g40]) p41 
oEnd)))))))) (kSeq (kDraw 
(dLook (nat_lit 0) [] [] (lkMove g9) p42 
(dTurn (nat_lit 1) [] [] false (xNil g42) p43 
(dLook (nat_lit 2) [] [] (lkFieldAddr (nat_lit 0) g43) p44 
(dTurn (nat_lit 3) [] [] true (xCall q544 [g44]) p45 
(dLook (nat_lit 4) [] [(nat_lit 3)] (lkMove g45) p46 
(dIf [(nat_lit 3)] (wantT g46) p47 (dLook (nat_lit 5) [] [(nat_lit 3)] (lkMove g9) p47 k300d17) k300d17))))))) (kSeq (oSet (xMove g10) p57 
(oSet (xMove g2) p58 
(oSet (xLook (lkEq false .bool g57 g58)) p59 
oEnd))) (kCond g59 (oSet (xMove g7) p60 
(oSet (xMove g8) p61 
(oSet (xNil g61) p62 
(oSet (xLook (lkFieldAddr (nat_lit 0) g62)) p63 
(oSet (xCall q545 [g63]) p64 
(oSet (xTurn (tnBuildSlice q5 [((nat_lit 0), (nat_lit 1), g64)] (nat_lit 1))) p65 
(oSet (xTurn (tnAppend (nat_lit 1) g60 g65)) p66 
(oSet (xMove g66) p7 
oEnd)))))))) kSkip))))) (oSet (xMove g8) p19 
(oSet (xNil g19) p20 
(oSet (xLook (lkFieldAddr (nat_lit 0) g20)) p21 
(oSet (xCall q546 [g21]) p22 
oEnd)))))))) (kSeq (oSet (xMove g7) p67 
(oSet (xMove g67) p6 
oEnd)) kRet)))))⟩
def q547 : OpdF := kC (.func (.func (nat_lit 325)) ⟨[]⟩ ⟨[]⟩)
noncomputable def k301 : KFun := ⟨[rTmp (nat_lit 4) g4], (kSeq (oSet (xMove q12) p4 
oEnd) (kSeq (oSet (xMove g0) p8 
(oSet (xMove g1) p9 
(oSet (xCall q547 [g8, g9]) p10 
(oSet (xMove g10) p5 
oEnd)))) (kSeq (kSeq (oSet (xMove g5) p11 
(oSet (xLook (lkEq false .int g11 q41)) p12 
oEnd)) (kCond g12 (kSeq (oSet (xMove g0) p13 
(oSet (xMove g13) p4 
oEnd)) kRet) kSkip)) (kSeq (kSeq (oSet (xMove g5) p14 
(oSet (xLook (lkBin .add g14 q16)) p15 
(oSet (xMove g15) p6 
oEnd))) (kBlock (nat_lit 0) (kLoop (kSeq (kSeq (oSet (xMove g6) p16 
(oSet (xMove g0) p17 
(oSet (xLook (lkLen .sl g17)) p18 
(oSet (xLook (lkBin .lss g16 g18)) p19 
oEnd)))) (kCond g19 kSkip (kExit (nat_lit 0)))) (kSeq (kBlock (nat_lit 1) (kSeq (oSet (xMove g0) p22 
(oSet (xMove g6) p23 
(oSet (xLook (lkIxSl (nat_lit 1) g22 g23)) p24 
(oSet (xLook (lkLoad1 g24)) p25 
(oSet (xMove g25) p7 
oEnd))))) (kSeq (oSet (xMove g1) p26 
(oSet (xMove g7) p27 
(oSet (xCall g26 [g27]) p28 
(oSet (xLook (lkUn .not g28)) p29 
oEnd)))) (kCond g29 (kSeq (oSet (xMove g0) p30 
(oSet (xMove g5) p31 
(oSet (xMove g7) p32 
(oSet (xLook (lkIxSl (nat_lit 1) g30 g31)) p33 
(oDo (xTurn (tnStore (nat_lit 1) g33 g32)) 
oEnd))))) (oSet (xMove g5) p34 
(oSet (xLook (lkBin .add g34 q16)) p35 
(oSet (xMove g35) p5 
oEnd)))) kSkip)))) (oSet (xMove g6) p20 
(oSet (xLook (lkBin .add g20 q16)) p21 
(oSet (xMove g21) p6 
oEnd)))))))) (kSeq (oSet (xMove g0) p36 
(oSet (xMove g5) p37 
(oSet (xLook (lkSliceSl (nat_lit 1) g36 (some g37) none none)) p38 
(oDo (xTurn (tnClear q5 g38)) 
oEnd)))) (kSeq (oSet (xMove g0) p39 
(oSet (xMove g5) p40 
(oSet (xLook (lkSliceSl (nat_lit 1) g39 none (some g40) none)) p41 
(oSet (xMove g41) p4 
oEnd)))) kRet))))))⟩
def q548 : OpdF := kC (.func (.func (nat_lit 303)) ⟨[]⟩ ⟨[]⟩)
noncomputable def k302 : KFun := ⟨[rTmp (nat_lit 3) g3], (kSeq (oSet (xMove q0) p3 
oEnd) (kSeq (oSet (xLook (lkLoad1 g1)) p4 
(oSet (xMove g0) p5 
(oSet (xCall q548 [g4, g5]) p6 
(oSet (xLook (lkUn .not g6)) p7 
(oSet (xMove g7) p3 
oEnd))))) kRet))⟩
def q549 : OpdF := kC (.func (.func (nat_lit 326)) ⟨[]⟩ ⟨[]⟩)
noncomputable def k303 : KFun := ⟨[rTmp (nat_lit 4) g4], (kSeq (oSet (xTurn (tnBox g1)) p3 
(oSet (xMove q0) p4 
oEnd)) (kSeq (oSet (xMove g0) p5 
(oSet (xLook (lkMkFunc (.func (nat_lit 327)) [] [g3])) p6 
(oSet (xCall q549 [g5, g6]) p7 
(oSet (xMove g7) p4 
oEnd)))) kRet))⟩
def q550 : OpdF := kC (.int .i64 (.ofNat (nat_lit 78913)))
noncomputable def k306 : KFun := ⟨[rTmp (nat_lit 2) g2], (kSeq (oSet (xMove q10) p2 
oEnd) (kSeq (oSet (xMove g0) p3 
(oSet (xLook (lkBin .mul g3 q550)) p4 
(oSet (xLook (lkBin .shr g4 q316)) p5 
(oSet (xMove g5) p2 
oEnd)))) kRet))⟩
noncomputable def k307 : KFun := ⟨[rTmp (nat_lit 2) g2], (kSeq (oSet (xMove q10) p2 
oEnd) (kSeq (kSeq (oSet (xMove g0) p3 
oEnd) (kCond g3 (kSeq (oSet (xMove q16) p2 
oEnd) kRet) kSkip)) (kSeq (oSet (xMove q10) p2 
oEnd) kRet)))⟩
noncomputable def k308 : KFun := ⟨[rTmp (nat_lit 2) g2], (kSeq (oSet (xMove q0) p2 
oEnd) (kSeq (oSet (xMove g0) p3 
(oSet (xMove g0) p4 
(oSet (xLook (lkBin .sub g4 q16)) p5 
(oSet (xLook (lkBin .and g3 g5)) p6 
(oSet (xLook (lkEq false .int g6 q10)) p7 
(oSet (xMove g7) p2 
oEnd)))))) kRet))⟩
def q551 : OpdF := kC (.func (.func (nat_lit 328)) ⟨[]⟩ ⟨[]⟩)
def q552 : OpdF := kC (.func (.func (nat_lit 329)) ⟨[]⟩ ⟨[]⟩)
noncomputable def k309 : KFun := ⟨[rTmp (nat_lit 2) g2], (kSeq (oSet (xMove q10) p2 
oEnd) (kSeq (kCond q0 (kSeq (oSet (xMove g0) p3 
(oSet (xLook (lkIntTo .u32 g3)) p4 
(oSet (xCall q551 [g4]) p5 
(oSet (xMove g5) p2 
oEnd)))) kRet) kSkip) (kSeq (oSet (xMove g0) p6 
(oSet (xCall q552 [g6]) p7 
(oSet (xMove g7) p2 
oEnd))) kRet)))⟩
noncomputable def k313d0 : KD := 
(dLook (nat_lit 16) [] [(nat_lit 14)] (lkPick g21 g33 q0) p34 (dEnd [(nat_lit 18), (nat_lit 19), (nat_lit 20), (nat_lit 21), (nat_lit 22), (nat_lit 23), (nat_lit 24), (nat_lit 25), (nat_lit 26), (nat_lit 27), (nat_lit 28), (nat_lit 29), (nat_lit 30), (nat_lit 31), (nat_lit 32), (nat_lit 33), (nat_lit 34)]))
noncomputable def k313d1 : KD := 
(dIf [(nat_lit 14)] (wantT g21) p33 (dLook (nat_lit 15) [] [(nat_lit 14)] (lkBin .lss g32 q10) p33 k313d0) k313d0)
noncomputable def k313d2 : KD := 
(dIf [] (wantT g21) p32 (dTurn (nat_lit 14) [] [] true (xCall g22 [g26, g31]) p32 k313d1) k313d1)
noncomputable def k313d3 : KD := 
(dIf [] (wantT g21) p31 (dLook (nat_lit 13) [] [] (lkLoadN (nat_lit 2) g30) p31 k313d2) k313d2)
noncomputable def k313d4 : KD := 
(dIf [] (wantT g21) p30 (dLook (nat_lit 12) [] [] (lkIxSl (nat_lit 2) g27 g29) p30 k313d3) k313d3)
noncomputable def k313d5 : KD := 
(dIf [] (wantT g21) p29 (dLook (nat_lit 11) [] [] (lkBin .sub g28 q16) p29 k313d4) k313d4)
noncomputable def k313d6 : KD := 
(dIf [] (wantT g21) p28 (dLook (nat_lit 10) [] [] (lkMove g9) p28 k313d5) k313d5)
noncomputable def k313d7 : KD := 
(dIf [] (wantT g21) p27 (dLook (nat_lit 9) [] [] (lkMove g0) p27 k313d6) k313d6)
noncomputable def k313d8 : KD := 
(dIf [] (wantT g21) p26 (dLook (nat_lit 8) [] [] (lkLoadN (nat_lit 2) g25) p26 k313d7) k313d7)
noncomputable def k313d9 : KD := 
(dIf [] (wantT g21) p25 (dLook (nat_lit 7) [] [] (lkIxSl (nat_lit 2) g23 g24) p25 k313d8) k313d8)
noncomputable def k313d10 : KD := 
(dIf [] (wantT g21) p24 (dLook (nat_lit 6) [] [] (lkMove g9) p24 k313d9) k313d9)
noncomputable def k313d11 : KD := 
(dIf [] (wantT g21) p23 (dLook (nat_lit 5) [] [] (lkMove g0) p23 k313d10) k313d10)
noncomputable def k313 : KFun := ⟨[], (kSeq (oSet (xMove g1) p10 
(oSet (xLook (lkBin .add g10 q16)) p11 
(oSet (xMove g11) p8 
oEnd))) (kBlock (nat_lit 0) (kLoop (kSeq (kSeq (oSet (xMove g8) p12 
(oSet (xMove g2) p13 
(oSet (xLook (lkBin .lss g12 g13)) p14 
oEnd))) (kCond g14 kSkip (kExit (nat_lit 0)))) (kSeq (kBlock (nat_lit 1) (kSeq (oSet (xMove g8) p17 
(oSet (xMove g17) p9 
oEnd)) (kBlock (nat_lit 2) (kLoop (kSeq (kSeq (kDraw 
(dLook (nat_lit 0) [] [] (lkMove g9) p18 
(dLook (nat_lit 1) [] [] (lkMove g1) p19 
(dLook (nat_lit 2) [] [] (lkBin .gtr g18 g19) p20 
(dLook (nat_lit 3) [] [] (lkMove g20) p21 
(dIf [] (wantT g21) p22 (dLook (nat_lit 4) [] [] (lkMove g3) p22 k313d11) k313d11)))))) (kCond g34 kSkip (kExit (nat_lit 2)))) (kSeq (kBlock (nat_lit 3) (kDraw 
(dLook (nat_lit 0) [] [] (lkMove g0) p37 
(dLook (nat_lit 1) [] [] (lkMove g9) p38 
(dLook (nat_lit 2) [] [] (lkMove g0) p39 
(dLook (nat_lit 3) [] [] (lkMove g9) p40 
(dLook (nat_lit 4) [] [] (lkBin .sub g40 q16) p41 
(dLook (nat_lit 5) [] [] (lkMove g0) p42 
(dLook (nat_lit 6) [] [] (lkMove g9) p43 
(dLook (nat_lit 7) [] [] (lkBin .sub g43 q16) p44 
(dLook (nat_lit 8) [] [] (lkIxSl (nat_lit 2) g42 g44) p45 
(dLook (nat_lit 9) [] [] (lkLoadN (nat_lit 2) g45) p46 
(dLook (nat_lit 10) [] [] (lkMove g0) p47 
(dLook (nat_lit 11) [] [] (lkMove g9) p48 
(dLook (nat_lit 12) [] [] (lkIxSl (nat_lit 2) g47 g48) p49 
(dLook (nat_lit 13) [] [] (lkLoadN (nat_lit 2) g49) p50 
(dLook (nat_lit 14) [] [] (lkIxSl (nat_lit 2) g37 g38) p51 
(dTurn (nat_lit 15) [] [] true (xTurn (tnStore (nat_lit 2) g51 g46)) noDst 
(dLook (nat_lit 16) [] [(nat_lit 15)] (lkIxSl (nat_lit 2) g39 g41) p52 
(dTurn (nat_lit 17) [] [(nat_lit 15)] true (xTurn (tnStore (nat_lit 2) g52 g50)) noDst (dEnd [(nat_lit 37), (nat_lit 38), (nat_lit 39), (nat_lit 40), (nat_lit 41), (nat_lit 42), (nat_lit 43), (nat_lit 44), (nat_lit 45), (nat_lit 46), (nat_lit 47), (nat_lit 48), (nat_lit 49), (nat_lit 50), (nat_lit 51), (nat_lit 52)]))))))))))))))))))))) (oSet (xMove g9) p35 
(oSet (xLook (lkBin .sub g35 q16)) p36 
(oSet (xMove g36) p9 
oEnd))))))))) (oSet (xMove g8) p15 
(oSet (xLook (lkBin .add g15 q16)) p16 
(oSet (xMove g16) p8 
oEnd))))))))⟩
noncomputable def k321 : KFun := ⟨[rTmp (nat_lit 2) g2], (kSeq (oSet (xMove q2) p2 
oEnd) (kSeq (oSet (xMove g0) p3 
(oSet (xCall q278 [g3]) p4 
(oSet (xLook (lkBuild q77 [((nat_lit 0), (nat_lit 1), g4)])) p5 
(oSet (xLook (lkBuild q77 [((nat_lit 0), (nat_lit 1), g5)])) p6 
(oSet (xTurn (tnBox g6)) p7 
(oSet (xMove g7) p2 
oEnd)))))) kRet))⟩
noncomputable def k322 : KFun := ⟨[rTmp (nat_lit 2) g2], (kSeq (oSet (xMove q0) p2 
oEnd) (kSeq (oSet (xMove g0) p3 
(oSet (xNil g3) p4 
(oSet (xLook (lkFieldAddr (nat_lit 0) g4)) p5 
(oSet (xLook (lkLoad1 g5)) p6 
(oSet (xLook (lkLen .sl g6)) p7 
(oSet (xLook (lkBin .gtr g7 q10)) p8 
(oSet (xMove g8) p2 
oEnd))))))) kRet))⟩
noncomputable def k323 : KFun := ⟨[], (oSet (xMove g0) p2 
(oSet (xMove g0) p3 
(oSet (xNil g3) p4 
(oSet (xLook (lkFieldAddr (nat_lit 0) g4)) p5 
(oSet (xLook (lkLoad1 g5)) p6 
(oSet (xLook (lkSliceSl (nat_lit 1) g6 (some q16) none none)) p7 
(oSet (xNil g2) p8 
(oSet (xLook (lkFieldAddr (nat_lit 0) g8)) p9 
(oDo (xTurn (tnStore (nat_lit 1) g9 g7)) 
oEnd)))))))))⟩
noncomputable def k325 : KFun := ⟨[rTmp (nat_lit 4) g4], (kSeq (oSet (xMove q10) p4 
oEnd) (kSeq (kSeq (oSet (xMove g0) p6 
(oSet (xLook (lkLen .sl g6)) p7 
(oSet (xMove q10) p8 
oEnd))) (kBlock (nat_lit 0) (kLoop (kSeq (oSet (xLook (lkBin .lss g8 g7)) p9 
oEnd) (kSeq (kCond g9 kSkip (kExit (nat_lit 0))) (kSeq (kBlock (nat_lit 1) (kSeq (oSet (xMove g8) p10 
(oSet (xMove g10) p5 
oEnd)) (kSeq (oSet (xMove g1) p11 
(oSet (xMove g0) p12 
(oSet (xMove g5) p13 
(oSet (xLook (lkIxSl (nat_lit 1) g12 g13)) p14 
(oSet (xLook (lkLoad1 g14)) p15 
(oSet (xCall g11 [g15]) p16 
oEnd)))))) (kCond g16 (kSeq (oSet (xMove g5) p17 
(oSet (xMove g17) p4 
oEnd)) kRet) kSkip)))) (oSet (xLook (lkBin .add g8 q16)) p18 
(oSet (xMove g18) p8 
oEnd)))))))) (kSeq (oSet (xMove q41) p4 
oEnd) kRet)))⟩
noncomputable def k326 : KFun := ⟨[rTmp (nat_lit 4) g4], (kSeq (oSet (xMove q0) p4 
oEnd) (kSeq (oSet (xMove g0) p5 
(oSet (xMove g1) p6 
(oSet (xCall q441 [g5, g6]) p7 
(oSet (xLook (lkBin .geq g7 q10)) p8 
(oSet (xMove g8) p4 
oEnd))))) kRet))⟩
def q558 : OpdF := kC (.int .u32 (.ofNat (nat_lit 125613361)))
def q559 : OpdF := kC (.int .u64 (.ofNat (nat_lit 27)))
noncomputable def k328 : KFun := ⟨[rTmp (nat_lit 2) g2], (kSeq (oSet (xMove q10) p2 
oEnd) (kSeq (kSeq (oSet (xMove g0) p3 
(oSet (xLook (lkEq false .int g3 q450)) p4 
oEnd)) (kCond g4 (kSeq (oSet (xMove q244) p2 
oEnd) kRet) kSkip)) (kSeq (oSet (xMove g0) p5 
(oSet (xMove g0) p6 
(oSet (xLook (lkUn .neg g6)) p7 
(oSet (xLook (lkBin .and g5 g7)) p8 
(oSet (xLook (lkBin .mul g8 q558)) p9 
(oSet (xLook (lkBin .shr g9 q559)) p10 
(oSet (xBad "indexAddr") p11 
(oSet (xLook (lkLoad1 g11)) p12 
(oSet (xLook (lkIntTo .i64 g12)) p13 
(oSet (xMove g13) p2 
oEnd)))))))))) kRet)))⟩
def q560 : OpdF := kC (.int .u64 (.ofNat (nat_lit 285870213051353865)))
def q561 : OpdF := kC (.int .u64 (.ofNat (nat_lit 58)))
noncomputable def k329 : KFun := ⟨[rTmp (nat_lit 2) g2], (kSeq (oSet (xMove q10) p2 
oEnd) (kSeq (kSeq (oSet (xMove g0) p3 
(oSet (xLook (lkEq false .int g3 q438)) p4 
oEnd)) (kCond g4 (kSeq (oSet (xMove q68) p2 
oEnd) kRet) kSkip)) (kSeq (oSet (xMove g0) p5 
(oSet (xMove g0) p6 
(oSet (xLook (lkUn .neg g6)) p7 
(oSet (xLook (lkBin .and g5 g7)) p8 
(oSet (xLook (lkBin .mul g8 q560)) p9 
(oSet (xLook (lkBin .shr g9 q561)) p10 
(oSet (xBad "indexAddr") p11 
(oSet (xLook (lkLoad1 g11)) p12 
(oSet (xLook (lkIntTo .i64 g12)) p13 
(oSet (xMove g13) p2 
oEnd)))))))))) kRet)))⟩
noncomputable def k350 : KFun := ⟨[rTmp (nat_lit 6) g6], (kSeq (oSet (xMove q10) p6 
oEnd) (kSeq (oSet (xMove g0) p7 
(oSet (xMove g0) p8 
(oSet (xNil g8) p9 
(oSet (xLook (lkFieldAddr (nat_lit 1) g9)) p10 
(oSet (xLook (lkLoad1 g10)) p11 
(oSet (xMove g11) p12 
(oSetIf (wantF g12) (xMove g1) p13 
(oSetIf (wantF g12) (xLook (lkBin .lss g13 q16)) p14 
(oSet (xLook (lkPick g12 q30 g14)) p15 
(oSet (xMove g15) p16 
(oSetIf (wantF g16) (xMove g1) p17 
(oSetIf (wantF g16) (xMove g2) p18 
(oSetIf (wantF g16) (xLook (lkBin .gtr g17 g18)) p19 
(oSet (xLook (lkPick g16 q30 g19)) p20 
(oSet (xNil g7) p21 
(oSet (xLook (lkFieldAddr (nat_lit 1) g21)) p22 
(oDo (xTurn (tnStore (nat_lit 1) g22 g20)) 
oEnd))))))))))))))))) (kSeq (oSet (xMove g0) p23 
(oSet (xNil g23) p24 
(oSet (xLook (lkFieldAddr (nat_lit 0) g24)) p25 
(oSet (xLook (lkLoad1 g25)) p26 
(oSet (xMove g1) p27 
(oSet (xCall q49 [g26, g27]) p28 
oEnd)))))) (kSeq (oSet (xMove g1) p29 
(oSet (xMove g29) p6 
oEnd)) kRet))))⟩
noncomputable def k351 : KFun := ⟨[], (kSeq (oSet (xMove g0) p10 
(oSet (xMove g0) p11 
(oSet (xNil g11) p12 
(oSet (xLook (lkFieldAddr (nat_lit 1) g12)) p13 
(oSet (xLook (lkLoad1 g13)) p14 
(oSet (xMove g14) p15 
(oSetIf (wantF g15) (xMove g1) p16 
(oSetIf (wantF g15) (xNil g16) p17 
(oSetIf (wantF g15) (xLook (lkLoad1 g17)) p18 
(oSetIf (wantF g15) (xMove g2) p19 
(oSetIf (wantF g15) (xLook (lkBin .lss g18 g19)) p20 
(oSet (xLook (lkPick g15 q30 g20)) p21 
(oSet (xMove g21) p22 
(oSetIf (wantF g22) (xMove g1) p23 
(oSetIf (wantF g22) (xNil g23) p24 
(oSetIf (wantF g22) (xLook (lkLoad1 g24)) p25 
(oSetIf (wantF g22) (xMove g3) p26 
(oSetIf (wantF g22) (xLook (lkBin .gtr g25 g26)) p27 
(oSet (xLook (lkPick g22 q30 g27)) p28 
(oSet (xNil g10) p29 
(oSet (xLook (lkFieldAddr (nat_lit 1) g29)) p30 
(oDo (xTurn (tnStore (nat_lit 1) g30 g28)) 
oEnd)))))))))))))))))))))) (kSeq (kDraw 
(dLook (nat_lit 0) [] [] (lkMove g0) p31 
(dTurn (nat_lit 1) [] [] false (xNil g31) p32 
(dLook (nat_lit 2) [] [] (lkFieldAddr (nat_lit 0) g32) p33 
(dLook (nat_lit 3) [] [] (lkLoad1 g33) p34 
(dLook (nat_lit 4) [] [] (lkMove g1) p35 
(dTurn (nat_lit 5) [] [] false (xNil g35) p36 
(dLook (nat_lit 6) [] [] (lkLoad1 g36) p37 
(dLook (nat_lit 7) [] [] (lkMove g4) p38 
(dLook (nat_lit 8) [] [] (lkBin .add g37 g38) p39 
(dLook (nat_lit 9) [] [] (lkMax g39 [q10]) p40 
(dTurn (nat_lit 10) [] [] true (xCall q49 [g34, g40]) p41 (dEnd [(nat_lit 31), (nat_lit 32), (nat_lit 33), (nat_lit 34), (nat_lit 35), (nat_lit 36), (nat_lit 37), (nat_lit 38), (nat_lit 39), (nat_lit 40), (nat_lit 41)]))))))))))))) (oSet (xMove g1) p42 
(oSet (xNil g42) p43 
(oDo (xTurn (tnStore (nat_lit 1) g43 q10)) 
oEnd)))))⟩
noncomputable def k352 : KFun := ⟨[], (kSeq (oSet (xMove g0) p6 
(oSet (xMove g0) p7 
(oSet (xNil g7) p8 
(oSet (xLook (lkFieldAddr (nat_lit 1) g8)) p9 
(oSet (xLook (lkLoad1 g9)) p10 
(oSet (xMove g10) p11 
(oSetIf (wantF g11) (xMove g1) p12 
(oSetIf (wantF g11) (xNil g12) p13 
(oSetIf (wantF g11) (xLook (lkLoad1 g13)) p14 
(oSetIf (wantF g11) (xLook (lkLen .str g14)) p15 
(oSetIf (wantF g11) (xMove g2) p16 
(oSetIf (wantF g11) (xLook (lkBin .gtr g15 g16)) p17 
(oSet (xLook (lkPick g11 q30 g17)) p18 
(oSet (xNil g6) p19 
(oSet (xLook (lkFieldAddr (nat_lit 1) g19)) p20 
(oDo (xTurn (tnStore (nat_lit 1) g20 g18)) 
oEnd)))))))))))))))) (kSeq (kDraw 
(dLook (nat_lit 0) [] [] (lkMove g0) p21 
(dTurn (nat_lit 1) [] [] false (xNil g21) p22 
(dLook (nat_lit 2) [] [] (lkFieldAddr (nat_lit 0) g22) p23 
(dLook (nat_lit 3) [] [] (lkLoad1 g23) p24 
(dLook (nat_lit 4) [] [] (lkMove g1) p25 
(dTurn (nat_lit 5) [] [] false (xNil g25) p26 
(dLook (nat_lit 6) [] [] (lkLoad1 g26) p27 
(dTurn (nat_lit 7) [] [] true (xCall q93 [g24, g27]) p28 (dEnd [(nat_lit 21), (nat_lit 22), (nat_lit 23), (nat_lit 24), (nat_lit 25), (nat_lit 26), (nat_lit 27), (nat_lit 28)])))))))))) (oSet (xMove g1) p29 
(oSet (xNil g29) p30 
(oDo (xTurn (tnStore (nat_lit 1) g30 q33)) 
oEnd)))))⟩
noncomputable def k353 : KFun := ⟨[rTmp (nat_lit 6) g6], (kSeq (oSet (xMove q10) p6 
oEnd) (kSeq (oSet (xMove g0) p9 
(oSet (xNil g9) p10 
(oSet (xLook (lkFieldAddr (nat_lit 0) g10)) p11 
(oSet (xLook (lkLoad1 g11)) p12 
(oSet (xCall q264 [g12]) p13 
(oSet (xMove g13) p7 
oEnd)))))) (kSeq (kSeq (oSet (xMove g0) p14 
(oSet (xCall q115 [g14]) p15 
(oSet (xLook (lkField1 (nat_lit 0) g15)) p16 
(oSet (xLook (lkEq true .int g16 q10)) p17 
oEnd)))) (kCond g17 (kSeq (oSet (xMove q10) p6 
oEnd) kRet) kSkip)) (kSeq (oSet (xMove g0) p18 
(oSet (xNil g18) p19 
(oSet (xLook (lkFieldAddr (nat_lit 0) g19)) p20 
(oSet (xLook (lkLoad1 g20)) p21 
(oSet (xMove g2) p22 
(oSet (xCall q62 [g21, g22]) p23 
(oSet (xMove g23) p8 
oEnd))))))) (kSeq (kSeq (oSet (xMove g8) p24 
(oSet (xLook (lkEq false .int g24 q10)) p25 
(oSet (xMove g25) p26 
(oSetIf (wantT g26) (xMove g0) p27 
(oSetIf (wantT g26) (xCall q115 [g27]) p28 
(oSetIf (wantT g26) (xLook (lkField1 (nat_lit 0) g28)) p29 
(oSetIf (wantT g26) (xLook (lkEq false .int g29 q10)) p30 
(oSet (xLook (lkPick g26 g30 q0)) p31 
oEnd)))))))) (kCond g31 (oSet (xMove g0) p32 
(oSet (xMove g7) p33 
(oSet (xLook (lkBuild q40 [((nat_lit 0), (nat_lit 1), q19), ((nat_lit 1), (nat_lit 1), g33)])) p34 
(oSet (xNil g32) p35 
(oSet (xLook (lkFieldAddr (nat_lit 1) g35)) p36 
(oDo (xTurn (tnStore (nat_lit 2) g36 g34)) 
oEnd)))))) kSkip)) (kSeq (oSet (xMove g8) p37 
(oSet (xMove g37) p6 
oEnd)) kRet))))))⟩
noncomputable def k354 : KFun := ⟨[], (kSeq (oSet (xMove g0) p10 
(oSet (xCall q115 [g10]) p11 
(oSet (xLook (lkField1 (nat_lit 0) g11)) p12 
(oSet (xLook (lkEq false .int g12 q10)) p13 
oEnd)))) (kCond g13 (oSet (xMove g1) p14 
(oSet (xMove g0) p15 
(oSet (xNil g15) p16 
(oSet (xLook (lkFieldAddr (nat_lit 0) g16)) p17 
(oSet (xLook (lkLoad1 g17)) p18 
(oSet (xMove g2) p19 
(oSet (xMove g4) p20 
(oSet (xLook (lkBin .add g19 g20)) p21 
(oSet (xMove g3) p22 
(oSet (xMove g4) p23 
(oSet (xLook (lkBin .add g22 g23)) p24 
(oSet (xCall q60 [g18, g21, g24]) p25 
(oSet (xMove g4) p26 
(oSet (xLook (lkBin .sub g25 g26)) p27 
(oSet (xNil g14) p28 
(oDo (xTurn (tnStore (nat_lit 1) g28 g27)) 
oEnd)))))))))))))))) kSkip))⟩
noncomputable def k355 : KFun := ⟨[], (kSeq (oSet (xMove g0) p6 
(oSet (xCall q115 [g6]) p7 
(oSet (xLook (lkField1 (nat_lit 0) g7)) p8 
(oSet (xLook (lkEq false .int g8 q10)) p9 
oEnd)))) (kCond g9 (oSet (xMove g1) p10 
(oSet (xMove g0) p11 
(oSet (xNil g11) p12 
(oSet (xLook (lkFieldAddr (nat_lit 0) g12)) p13 
(oSet (xLook (lkLoad1 g13)) p14 
(oSet (xMove g2) p15 
(oSet (xCall q65 [g14, g15]) p16 
(oSet (xNil g10) p17 
(oDo (xTurn (tnStore (nat_lit 1) g17 g16)) 
oEnd))))))))) kSkip))⟩
noncomputable def tab : Tr KFun := (.node none (.node none (.node (some k3) (.node (some k7) (.node (some k15) (.node (some k31) (.node (some k63) (.node (some k127) .nil .nil) (.node (some k191) .nil .nil)) (.node (some k95) .nil (.node (some k223) (.node (some k351) .nil .nil) .nil))) (.node (some k47) (.node none (.node (some k143) (.node (some k271) .nil .nil) .nil) .nil) (.node (some k111) (.node (some k175) (.node (some k303) .nil .nil) .nil) .nil))) (.node (some k23) (.node (some k39) (.node (some k71) (.node (some k135) (.node (some k263) .nil .nil) .nil) (.node (some k199) .nil .nil)) (.node (some k103) (.node (some k167) .nil .nil) .nil)) (.node (some k55) (.node (some k87) (.node (some k151) .nil .nil) (.node (some k215) .nil .nil)) (.node none (.node (some k183) .nil .nil) .nil)))) (.node (some k11) (.node (some k19) (.node (some k35) (.node (some k67) (.node (some k131) .nil .nil) (.node none (.node (some k323) .nil .nil) .nil)) (.node (some k99) .nil (.node none (.node (some k355) .nil .nil) .nil))) (.node (some k51) (.node (some k83) (.node (some k147) .nil .nil) .nil) (.node none (.node (some k179) (.node (some k307) .nil .nil) .nil) (.node (some k243) .nil .nil)))) (.node (some k27) (.node (some k43) (.node (some k75) (.node (some k139) (.node (some k267) .nil .nil) .nil) (.node (some k203) .nil .nil)) (.node (some k107) (.node none (.node (some k299) .nil .nil) .nil) .nil)) (.node (some k59) (.node (some k91) (.node none (.node (some k283) .nil .nil) .nil) (.node (some k219) .nil .nil)) (.node (some k123) (.node (some k187) .nil .nil) .nil))))) (.node (some k5) (.node (some k9) (.node (some k17) (.node (some k33) (.node none (.node (some k129) .nil .nil) (.node (some k193) (.node (some k321) .nil .nil) .nil)) (.node (some k97) .nil (.node (some k225) (.node (some k353) .nil .nil) .nil))) (.node none (.node none (.node (some k145) .nil .nil) (.node (some k209) .nil .nil)) (.node none (.node (some k177) .nil .nil) .nil))) (.node (some k25) (.node (some k41) (.node (some k73) (.node (some k137) .nil .nil) (.node (some k201) (.node (some k329) .nil .nil) .nil)) (.node (some k105) (.node (some k169) (.node (some k297) .nil .nil) .nil) .nil)) (.node (some k57) (.node none (.node (some k153) .nil .nil) (.node (some k217) .nil .nil)) (.node (some k121) (.node (some k185) (.node (some k313) .nil .nil) .nil) .nil)))) (.node (some k13) (.node (some k21) (.node (some k37) (.node (some k69) (.node (some k133) (.node (some k261) .nil .nil) .nil) (.node none (.node (some k325) .nil .nil) .nil)) (.node (some k101) .nil .nil)) (.node (some k53) .nil (.node none (.node (some k181) (.node (some k309) .nil .nil) .nil) (.node (some k245) .nil .nil)))) (.node (some k29) (.node (some k45) (.node (some k77) (.node none (.node (some k269) .nil .nil) .nil) .nil) (.node (some k109) (.node none (.node (some k301) .nil .nil) .nil) .nil)) (.node (some k61) (.node none (.node none (.node (some k285) .nil .nil) .nil) (.node (some k221) .nil .nil)) (.node none (.node (some k189) .nil .nil) .nil)))))) (.node none (.node (some k4) (.node (some k8) (.node (some k16) (.node (some k32) (.node (some k64) (.node (some k128) .nil .nil) (.node (some k192) .nil .nil)) (.node (some k96) (.node none (.node (some k288) .nil .nil) .nil) (.node (some k224) (.node (some k352) .nil .nil) .nil))) (.node (some k48) .nil (.node (some k112) (.node (some k176) .nil .nil) .nil))) (.node (some k24) (.node (some k40) (.node (some k72) (.node (some k136) .nil .nil) (.node none (.node (some k328) .nil .nil) .nil)) (.node (some k104) .nil .nil)) (.node (some k56) (.node none (.node (some k152) .nil .nil) (.node (some k216) .nil .nil)) (.node none (.node (some k184) .nil .nil) (.node (some k248) .nil .nil))))) (.node (some k12) (.node (some k20) (.node (some k36) (.node (some k68) (.node (some k132) (.node (some k260) .nil .nil) .nil) .nil) (.node (some k100) (.node (some k164) .nil .nil) (.node (some k228) .nil .nil))) (.node (some k52) (.node none (.node (some k148) .nil .nil) .nil) (.node (some k116) (.node (some k180) (.node (some k308) .nil .nil) .nil) .nil))) (.node (some k28) (.node (some k44) (.node none (.node none (.node (some k268) .nil .nil) .nil) .nil) (.node (some k108) (.node none (.node (some k300) .nil .nil) .nil) .nil)) (.node (some k60) (.node (some k92) (.node none (.node (some k284) .nil .nil) .nil) (.node (some k220) .nil .nil)) (.node none (.node (some k188) .nil .nil) .nil))))) (.node (some k6) (.node (some k10) (.node none (.node (some k34) (.node (some k66) (.node (some k130) .nil .nil) (.node none (.node (some k322) .nil .nil) .nil)) (.node (some k98) (.node none (.node (some k290) .nil .nil) .nil) (.node none (.node (some k354) .nil .nil) .nil))) (.node (some k50) (.node none (.node (some k146) .nil .nil) .nil) (.node none (.node (some k178) (.node (some k306) .nil .nil) .nil) .nil))) (.node (some k26) (.node (some k42) (.node (some k74) (.node (some k138) .nil .nil) (.node (some k202) .nil .nil)) (.node none (.node (some k170) (.node (some k298) .nil .nil) .nil) .nil)) (.node (some k58) (.node (some k90) (.node none (.node (some k282) .nil .nil) .nil) (.node (some k218) .nil .nil)) (.node (some k122) (.node (some k186) .nil .nil) .nil)))) (.node (some k14) (.node (some k22) (.node (some k38) (.node none (.node (some k134) .nil .nil) (.node (some k198) (.node (some k326) .nil .nil) .nil)) (.node (some k102) (.node (some k166) .nil .nil) .nil)) (.node (some k54) .nil (.node none (.node (some k182) .nil .nil) .nil))) (.node (some k30) (.node (some k46) (.node (some k78) (.node (some k142) (.node (some k270) .nil .nil) .nil) .nil) (.node none (.node (some k174) (.node (some k302) .nil .nil) .nil) (.node (some k238) .nil .nil))) (.node (some k62) (.node none .nil (.node (some k222) (.node (some k350) .nil .nil) .nil)) (.node none (.node (some k190) .nil .nil) .nil)))))))
end Go.Proofs.YtdgipehldjnfcaaGreatDoor.Eng
