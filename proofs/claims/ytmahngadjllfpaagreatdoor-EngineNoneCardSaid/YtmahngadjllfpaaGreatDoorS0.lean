/-
  The functions that the law reaches, as the abstract machine runs them, printed by program. No condition.
-/
import Derived.Test.YtmahngadjllfpaaGreatDoorA
namespace Go.Proofs.YtmahngadjllfpaaGreatDoor.Eng
open Go Go.Eng
set_option linter.unusedVariables false
set_option maxRecDepth 100000

def q0 : OpdF := kC (.bool false)
def q1 : OpdF := kC (.int .i64 (.ofNat (nat_lit 100)))
def q2 : OpdF := kC (.bool true)
def q3 : List Value := [(.pointer none), (.slice none (nat_lit 0) (nat_lit 0))]
def q4 : List Value := [(.pointer none), (.pointer none)]
def q5 : OpdF := kC (.pointer none)
def q6 : OpdF := kC (.int .i64 (.ofNat (nat_lit 0)))
def q7 : List Value := [(.bool false), (.int .i64 (.ofNat (nat_lit 0))), (.slice none (nat_lit 0) (nat_lit 0))]
def q8 : OpdF := kC (.func (.func (nat_lit 4)) ⟨[]⟩ ⟨[]⟩)
def q9 : OpdF := kC (.func (.func (nat_lit 5)) ⟨[]⟩ ⟨[]⟩)
def q10 : OpdF := kC (.func (.func (nat_lit 6)) ⟨[]⟩ ⟨[]⟩)
def q11 : OpdF := kC (.func (.func (nat_lit 7)) ⟨[]⟩ ⟨[]⟩)
def q12 : OpdF := kC (.func (.func (nat_lit 8)) ⟨[]⟩ ⟨[]⟩)
def q13 : OpdF := kC (.func (.func (nat_lit 9)) ⟨[]⟩ ⟨[]⟩)
def q14 : List Value := [(.string ⟨⟨[]⟩⟩), (.int .u8 (.ofNat (nat_lit 0))), (.int .u8 (.ofNat (nat_lit 0))), (.int .u8 (.ofNat (nat_lit 0))), (.int .u8 (.ofNat (nat_lit 0))), (.int .u8 (.ofNat (nat_lit 0))), (.int .u8 (.ofNat (nat_lit 0))), (.int .u8 (.ofNat (nat_lit 0))), (.int .u8 (.ofNat (nat_lit 0))), (.int .u8 (.ofNat (nat_lit 0))), (.int .u8 (.ofNat (nat_lit 0))), (.int .u8 (.ofNat (nat_lit 0))), (.int .u8 (.ofNat (nat_lit 0))), (.int .u8 (.ofNat (nat_lit 0))), (.int .u8 (.ofNat (nat_lit 0))), (.int .u8 (.ofNat (nat_lit 0))), (.int .u8 (.ofNat (nat_lit 0))), (.int .u8 (.ofNat (nat_lit 0))), (.int .u8 (.ofNat (nat_lit 0))), (.int .u8 (.ofNat (nat_lit 0))), (.int .u8 (.ofNat (nat_lit 0))), (.int .u8 (.ofNat (nat_lit 0))), (.int .u8 (.ofNat (nat_lit 0))), (.int .u8 (.ofNat (nat_lit 0))), (.int .u8 (.ofNat (nat_lit 0))), (.int .u8 (.ofNat (nat_lit 0))), (.int .u8 (.ofNat (nat_lit 0))), (.int .u8 (.ofNat (nat_lit 0))), (.int .u8 (.ofNat (nat_lit 0))), (.int .u8 (.ofNat (nat_lit 0))), (.int .u8 (.ofNat (nat_lit 0))), (.int .u8 (.ofNat (nat_lit 0))), (.int .u8 (.ofNat (nat_lit 0))), (.int .u8 (.ofNat (nat_lit 0))), (.int .u8 (.ofNat (nat_lit 0))), (.int .u8 (.ofNat (nat_lit 0))), (.int .u8 (.ofNat (nat_lit 0))), (.int .u8 (.ofNat (nat_lit 0))), (.int .u8 (.ofNat (nat_lit 0))), (.int .u8 (.ofNat (nat_lit 0))), (.int .u8 (.ofNat (nat_lit 0))), (.int .u8 (.ofNat (nat_lit 0))), (.int .u8 (.ofNat (nat_lit 0))), (.int .u8 (.ofNat (nat_lit 0))), (.int .u8 (.ofNat (nat_lit 0))), (.int .u8 (.ofNat (nat_lit 0))), (.int .u8 (.ofNat (nat_lit 0))), (.int .u8 (.ofNat (nat_lit 0))), (.int .u8 (.ofNat (nat_lit 0))), (.int .u8 (.ofNat (nat_lit 0))), (.int .u8 (.ofNat (nat_lit 0))), (.int .u8 (.ofNat (nat_lit 0))), (.int .u8 (.ofNat (nat_lit 0))), (.int .u8 (.ofNat (nat_lit 0))), (.int .u8 (.ofNat (nat_lit 0))), (.int .u8 (.ofNat (nat_lit 0))), (.int .u8 (.ofNat (nat_lit 0))), (.int .u8 (.ofNat (nat_lit 0))), (.int .u8 (.ofNat (nat_lit 0))), (.int .u8 (.ofNat (nat_lit 0))), (.int .u8 (.ofNat (nat_lit 0))), (.int .u8 (.ofNat (nat_lit 0))), (.int .u8 (.ofNat (nat_lit 0))), (.int .u8 (.ofNat (nat_lit 0))), (.int .u8 (.ofNat (nat_lit 0))), (.int .i64 (.ofNat (nat_lit 0))), (.slice none (nat_lit 0) (nat_lit 0))]
def q15 : OpdF := kC (.func (.func (nat_lit 10)) ⟨[]⟩ ⟨[]⟩)
def q16 : OpdF := kC (.int .i64 (.ofNat (nat_lit 1)))
def q17 : OpdF := kC (.func (.func (nat_lit 11)) ⟨[]⟩ ⟨[]⟩)
def q18 : OpdF := kC (.slice none (nat_lit 0) (nat_lit 0))
def q19 : OpdF := kC (.func (.func (nat_lit 12)) ⟨[]⟩ ⟨[]⟩)
def q20 : OpdF := kC (.func (.func (nat_lit 13)) ⟨[]⟩ ⟨[]⟩)
def q21 : OpdF := kC (.func (.func (nat_lit 14)) ⟨[]⟩ ⟨[]⟩)
def q22 : OpdF := kC (.func (.func (nat_lit 15)) ⟨[]⟩ ⟨[]⟩)
def q23 : OpdF := kC (.func (.func (nat_lit 16)) ⟨[]⟩ ⟨[]⟩)
def q24 : OpdF := kC (.func (.func (nat_lit 17)) ⟨[]⟩ ⟨[]⟩)
def q25 : OpdF := kC (.func (.func (nat_lit 18)) ⟨[]⟩ ⟨[]⟩)
def q26 : OpdF := kC (.func (.func (nat_lit 19)) ⟨[]⟩ ⟨[]⟩)
def q27 : OpdF := kC (.func (.func (nat_lit 20)) ⟨[]⟩ ⟨[]⟩)
noncomputable def k3 : KFun := ⟨[rTmp (nat_lit 4) g4], (kSeq (oSet (xMove q0) p4 
oEnd) (kSeq (kSeq (oSet (xMove g0) p22 
(oSet (xLook (lkLen .str g22)) p23 
(oSet (xLook (lkBin .gtr g23 q1)) p24 
oEnd))) (kCond g24 (kSeq (oSet (xMove q2) p4 
oEnd) kRet) kSkip)) (kSeq (oSet (xLook (lkBuild q3 [])) p25 
(oSet (xTurn (tnBox g25)) p26 
(oSet (xTurn (tnBuildSlice q4 [((nat_lit 0), (nat_lit 1), q5), ((nat_lit 1), (nat_lit 1), g26)] (nat_lit 2))) p27 
(oSet (xMove g27) p5 
oEnd)))) (kSeq (kSeq (oSet (xMove q6) p6 
oEnd) (kBlock (nat_lit 0) (kLoop (kSeq (kSeq (oSet (xMove g6) p28 
(oSet (xMove g5) p29 
(oSet (xLook (lkLen .sl g29)) p30 
(oSet (xLook (lkBin .lss g28 g30)) p31 
oEnd)))) (kCond g31 kSkip (kExit (nat_lit 0)))) (kSeq (kBlock (nat_lit 1) (kSeq (oSet (xMove g5) p34 
(oSet (xMove g6) p35 
(oSet (xLook (lkIxSl (nat_lit 1) g34 g35)) p36 
(oSet (xLook (lkLoad1 g36)) p37 
(oSet (xMove g37) p7 
oEnd))))) (kSeq (oSet (xMove g7) p39 
(oSet (xMove g0) p40 
(oSet (xLook (lkBuild q7 [])) p41 
(oSet (xCall q8 [g39, g40, g41]) p42 
(oSet (xMove g42) p38 
(oSet (xLook (lkExtract (nat_lit 0) g38)) p43 
(oSet (xLook (lkExtract (nat_lit 1) g38)) p44 
(oSet (xMove g43) p8 
(oSet (xMove g44) p9 
oEnd))))))))) (kSeq (oSet (xMove g7) p46 
(oSet (xMove g0) p47 
(oSet (xCall q9 [g46, g47]) p48 
(oSet (xMove g48) p45 
(oSet (xLook (lkExtract (nat_lit 0) g45)) p49 
(oSet (xLook (lkExtract (nat_lit 1) g45)) p50 
(oSet (xMove g49) p10 
(oSet (xMove g50) p11 
oEnd)))))))) (kSeq (oSet (xMove g7) p52 
(oSet (xMove g0) p53 
(oSet (xCall q10 [g52, g53]) p54 
(oSet (xMove g54) p51 
(oSet (xLook (lkExtract (nat_lit 0) g51)) p55 
(oSet (xLook (lkExtract (nat_lit 1) g51)) p56 
(oSet (xMove g55) p12 
(oSet (xMove g56) p13 
oEnd)))))))) (kSeq (oSet (xMove g7) p58 
(oSet (xMove g0) p59 
(oSet (xMove g1) p60 
(oSet (xCall q11 [g58, g59, g60]) p61 
(oSet (xMove g61) p57 
(oSet (xLook (lkExtract (nat_lit 0) g57)) p62 
(oSet (xLook (lkExtract (nat_lit 1) g57)) p63 
(oSet (xMove g62) p14 
(oSet (xMove g63) p15 
oEnd))))))))) (kSeq (oSet (xMove g7) p65 
(oSet (xCall q12 [g65]) p66 
(oSet (xMove g66) p64 
(oSet (xLook (lkExtract (nat_lit 0) g64)) p67 
(oSet (xLook (lkExtract (nat_lit 1) g64)) p68 
(oSet (xMove g67) p16 
(oSet (xMove g68) p17 
oEnd))))))) (kSeq (oSet (xMove g7) p70 
(oSet (xMove g0) p71 
(oSet (xCall q13 [g70, g71]) p72 
(oSet (xMove g72) p69 
(oSet (xLook (lkExtract (nat_lit 0) g69)) p73 
(oSet (xLook (lkExtract (nat_lit 1) g69)) p74 
(oSet (xTurn (tnAlloc q14)) p18 
(oDo (xTurn (tnStore (nat_lit 67) g18 g73)) 
(oSet (xMove g74) p19 
oEnd))))))))) (kSeq (kSeq (oSet (xMove g7) p75 
(oSet (xMove g0) p76 
(oSet (xCall q15 [g75, g76]) p77 
(oSet (xLook (lkEq true .int g77 q16)) p78 
(oSet (xMove g78) p79 
(oSetIf (wantF g79) (xMove g7) p80 
(oSetIf (wantF g79) (xMove g0) p81 
(oSetIf (wantF g79) (xCall q17 [g80, g81, q18]) p82 
(oSetIf (wantF g79) (xLook (lkEq true .int g82 q16)) p83 
(oSet (xLook (lkPick g79 q2 g83)) p84 
(oSet (xMove g84) p85 
(oSetIf (wantF g85) (xMove g9) p86 
(oSetIf (wantF g85) (xLook (lkEq true .int g86 q16)) p87 
(oSet (xLook (lkPick g85 q2 g87)) p88 
(oSet (xMove g88) p89 
(oSetIf (wantF g89) (xMove g11) p90 
(oSetIf (wantF g89) (xLook (lkEq true .int g90 q16)) p91 
(oSet (xLook (lkPick g89 q2 g91)) p92 
(oSet (xMove g92) p93 
(oSetIf (wantF g93) (xMove g13) p94 
(oSetIf (wantF g93) (xLook (lkEq true .int g94 q16)) p95 
(oSet (xLook (lkPick g93 q2 g95)) p96 
(oSet (xMove g96) p97 
(oSetIf (wantF g97) (xMove g15) p98 
(oSetIf (wantF g97) (xLook (lkEq true .int g98 q16)) p99 
(oSet (xLook (lkPick g97 q2 g99)) p100 
(oSet (xMove g100) p101 
(oSetIf (wantF g101) (xMove g17) p102 
(oSetIf (wantF g101) (xLook (lkEq true .int g102 q16)) p103 
(oSet (xLook (lkPick g101 q2 g103)) p104 
(oSet (xMove g104) p105 
(oSetIf (wantF g105) (xMove g19) p106 
(oSet (xLook (lkPick g105 q2 g106)) p107 
(oSet (xMove g107) p108 
(oSetIf (wantF g108) (xMove g7) p109 
(oSetIf (wantF g108) (xCall q19 [g109]) p110 
(oSetIf (wantF g108) (xLook (lkEq true .ptr g110 q5)) p111 
(oSet (xLook (lkPick g108 q2 g111)) p112 
oEnd)))))))))))))))))))))))))))))))))))))) (kCond g112 (kSeq (oSet (xMove q0) p4 
oEnd) kRet) kSkip)) (kSeq (oSet (xMove g7) p113 
(oSet (xMove g0) p114 
(oSet (xCall q20 [g113, g114, q18]) p115 
(oSet (xLook (lkEq true .int g115 q16)) p116 
(oSet (xMove g116) p117 
(oSetIf (wantF g117) (xMove g7) p118 
(oSetIf (wantF g117) (xMove g0) p119 
(oSetIf (wantF g117) (xCall q21 [g118, g119]) p120 
(oSetIf (wantF g117) (xLook (lkEq true .int g120 q16)) p121 
(oSet (xLook (lkPick g117 q2 g121)) p122 
(oSet (xMove g122) p123 
(oSetIf (wantF g123) (xMove g7) p124 
(oSetIf (wantF g123) (xMove g0) p125 
(oSetIf (wantF g123) (xMove g0) p126 
(oSetIf (wantF g123) (xCall q22 [g124, g125, g126]) p127 
(oSetIf (wantF g123) (xLook (lkEq true .int g127 q16)) p128 
(oSet (xLook (lkPick g123 q2 g128)) p129 
(oSet (xMove g129) p130 
(oSetIf (wantF g130) (xMove g7) p131 
(oSetIf (wantF g130) (xCall q23 [g131]) p132 
(oSetIf (wantF g130) (xLook (lkEq true .int g132 q16)) p133 
(oSet (xLook (lkPick g130 q2 g133)) p134 
(oSet (xMove g134) p135 
(oSetIf (wantF g135) (xMove g7) p136 
(oSetIf (wantF g135) (xCall q24 [g136]) p137 
(oSetIf (wantF g135) (xLook (lkEq true .int g137 q16)) p138 
(oSet (xLook (lkPick g135 q2 g138)) p139 
(oSet (xMove g139) p140 
(oSetIf (wantF g140) (xMove g7) p141 
(oSetIf (wantF g140) (xCall q25 [g141]) p142 
(oSetIf (wantF g140) (xLook (lkLen .sl g142)) p143 
(oSetIf (wantF g140) (xLook (lkEq true .int g143 q6)) p144 
(oSet (xLook (lkPick g140 q2 g144)) p145 
oEnd))))))))))))))))))))))))))))))))) (kCond g145 (kSeq (oSet (xMove q0) p4 
oEnd) kRet) kSkip))))))))))) (oSet (xMove g6) p32 
(oSet (xLook (lkBin .add g32 q16)) p33 
(oSet (xMove g33) p6 
oEnd)))))))) (kSeq (oSet (xCall q26 [q5]) p147 
(oSet (xMove g147) p146 
(oSet (xLook (lkExtract (nat_lit 0) g146)) p148 
(oSet (xLook (lkExtract (nat_lit 1) g146)) p149 
(oSet (xMove g148) p20 
(oSet (xMove g149) p21 
oEnd)))))) (kSeq (oSet (xMove g21) p150 
(oSet (xLook (lkEq false .int g150 q16)) p151 
(oSet (xMove g151) p152 
(oSetIf (wantT g152) (xCall q27 []) p153 
(oSet (xLook (lkPick g152 g153 q0)) p154 
(oSet (xMove g154) p4 
oEnd)))))) kRet))))))⟩
def q28 : List Value := [(.slice none (nat_lit 0) (nat_lit 0))]
def q29 : OpdF := kC (.func (.func (nat_lit 21)) ⟨[]⟩ ⟨[]⟩)
def q30 : OpdF := kC (.func (.func (nat_lit 22)) ⟨[]⟩ ⟨[]⟩)
noncomputable def k4 : KFun := ⟨[rCell1 (nat_lit 6) g6, rTmp (nat_lit 7) g7], (kSeq (oSet (xTurn (tnBox g0)) p3 
(oSet (xTurn (tnBox g1)) p4 
(oSet (xTurn (tnBox g2)) p5 
(oSet (xTurn (tnAlloc q28)) p6 
(oSet (xMove q6) p7 
oEnd))))) (kSeq (kSeq (oSet (xLook (lkLoad1 g3)) p8 
(oSet (xCall q29 [g8]) p9 
(oSet (xLook (lkUn .not g9)) p10 
oEnd))) (kCond g10 (kSeq (oDo (xTurn (tnStore (nat_lit 1) g6 q18)) 
(oSet (xMove q16) p7 
oEnd)) kRet) kSkip)) (kSeq (oSet (xLook (lkMkFunc (.func (nat_lit 23)) [] [g3, g4, g5, g6])) p11 
(oSet (xCall q30 [g11]) p12 
(oSet (xMove g12) p7 
oEnd))) (kSeq (oSet (xLook (lkLoad1 g6)) p13 
(oSet (xMove g7) p14 
(oDo (xTurn (tnStore (nat_lit 1) g6 g13)) 
(oSet (xMove g14) p7 
oEnd)))) kRet))))⟩
noncomputable def k5 : KFun := ⟨[rCell1 (nat_lit 4) g4, rTmp (nat_lit 5) g5], (kSeq (oSet (xTurn (tnBox g0)) p2 
(oSet (xTurn (tnBox g1)) p3 
(oSet (xTurn (tnAlloc q28)) p4 
(oSet (xMove q6) p5 
oEnd)))) (kSeq (kSeq (oSet (xLook (lkLoad1 g2)) p6 
(oSet (xCall q29 [g6]) p7 
(oSet (xLook (lkUn .not g7)) p8 
oEnd))) (kCond g8 (kSeq (oDo (xTurn (tnStore (nat_lit 1) g4 q18)) 
(oSet (xMove q16) p5 
oEnd)) kRet) kSkip)) (kSeq (oSet (xLook (lkMkFunc (.func (nat_lit 31)) [] [g2, g3, g4])) p9 
(oSet (xCall q30 [g9]) p10 
(oSet (xMove g10) p5 
oEnd))) (kSeq (oSet (xLook (lkLoad1 g4)) p11 
(oSet (xMove g5) p12 
(oDo (xTurn (tnStore (nat_lit 1) g4 g11)) 
(oSet (xMove g12) p5 
oEnd)))) kRet))))⟩
noncomputable def k6 : KFun := ⟨[rCell1 (nat_lit 4) g4, rTmp (nat_lit 5) g5], (kSeq (oSet (xTurn (tnBox g0)) p2 
(oSet (xTurn (tnBox g1)) p3 
(oSet (xTurn (tnAlloc q28)) p4 
(oSet (xMove q6) p5 
oEnd)))) (kSeq (kSeq (oSet (xLook (lkLoad1 g2)) p6 
(oSet (xCall q29 [g6]) p7 
(oSet (xLook (lkUn .not g7)) p8 
oEnd))) (kCond g8 (kSeq (oDo (xTurn (tnStore (nat_lit 1) g4 q18)) 
(oSet (xMove q16) p5 
oEnd)) kRet) kSkip)) (kSeq (oSet (xLook (lkMkFunc (.func (nat_lit 32)) [] [g2, g3, g4])) p9 
(oSet (xCall q30 [g9]) p10 
(oSet (xMove g10) p5 
oEnd))) (kSeq (oSet (xLook (lkLoad1 g4)) p11 
(oSet (xMove g5) p12 
(oDo (xTurn (tnStore (nat_lit 1) g4 g11)) 
(oSet (xMove g12) p5 
oEnd)))) kRet))))⟩
noncomputable def k7 : KFun := ⟨[rCell1 (nat_lit 6) g6, rTmp (nat_lit 7) g7], (kSeq (oSet (xTurn (tnBox g0)) p3 
(oSet (xTurn (tnBox g1)) p4 
(oSet (xTurn (tnBox g2)) p5 
(oSet (xTurn (tnAlloc q28)) p6 
(oSet (xMove q6) p7 
oEnd))))) (kSeq (kSeq (oSet (xLook (lkLoad1 g3)) p8 
(oSet (xCall q29 [g8]) p9 
(oSet (xLook (lkUn .not g9)) p10 
oEnd))) (kCond g10 (kSeq (oDo (xTurn (tnStore (nat_lit 1) g6 q18)) 
(oSet (xMove q16) p7 
oEnd)) kRet) kSkip)) (kSeq (oSet (xLook (lkMkFunc (.func (nat_lit 33)) [] [g3, g4, g5, g6])) p11 
(oSet (xCall q30 [g11]) p12 
(oSet (xMove g12) p7 
oEnd))) (kSeq (oSet (xLook (lkLoad1 g6)) p13 
(oSet (xMove g7) p14 
(oDo (xTurn (tnStore (nat_lit 1) g6 g13)) 
(oSet (xMove g14) p7 
oEnd)))) kRet))))⟩
def q31 : List Value := [(.map none)]
def q32 : List Value := [.nilFunc]
noncomputable def k8 : KFun := ⟨[rCell1 (nat_lit 2) g2, rTmp (nat_lit 3) g3], (kSeq (oSet (xTurn (tnBox g0)) p1 
(oSet (xTurn (tnAlloc q28)) p2 
(oSet (xMove q6) p3 
oEnd))) (kSeq (kSeq (oSet (xLook (lkLoad1 g1)) p6 
(oSet (xCall q29 [g6]) p7 
(oSet (xLook (lkUn .not g7)) p8 
oEnd))) (kCond g8 (kSeq (oDo (xTurn (tnStore (nat_lit 1) g2 q18)) 
(oSet (xMove q16) p3 
oEnd)) kRet) kSkip)) (kSeq (oSet (xTurn (tnMkMap (.many (nat_lit 32) .u8))) p9 
(oSet (xTurn (tnAlloc q31)) p4 
(oDo (xTurn (tnStore (nat_lit 1) g4 g9)) 
oEnd))) (kSeq (oSet (xLook (lkMkFunc (.func (nat_lit 35)) [] [g4, g2])) p10 
(oSet (xTurn (tnAlloc q32)) p5 
(oDo (xTurn (tnStore (nat_lit 1) g5 g10)) 
oEnd))) (kSeq (oSet (xLook (lkMkFunc (.func (nat_lit 36)) [] [g1, g5])) p11 
(oSet (xCall q30 [g11]) p12 
(oSet (xMove g12) p3 
oEnd))) (kSeq (kSeq (oSet (xMove g3) p13 
(oSet (xLook (lkEq true .int g13 q6)) p14 
oEnd)) (kCond g14 (kSeq (oSet (xMove g3) p15 
(oDo (xTurn (tnStore (nat_lit 1) g2 q18)) 
(oSet (xMove g15) p3 
oEnd))) kRet) kSkip)) (kSeq (oSet (xLook (lkLoad1 g2)) p16 
(oDo (xTurn (tnStore (nat_lit 1) g2 g16)) 
(oSet (xMove q6) p3 
oEnd))) kRet)))))))⟩
def q33 : OpdF := kC (.func (.func (nat_lit 39)) ⟨[]⟩ ⟨[]⟩)
noncomputable def k9 : KFun := ⟨[rCellN (nat_lit 4) g4 (nat_lit 67), rTmp (nat_lit 5) g5], (kSeq (oSet (xTurn (tnAlloc q14)) p4 
(oSet (xMove q0) p5 
oEnd)) (kSeq (kSeq (oSet (xMove g0) p6 
(oSet (xCall q29 [g6]) p7 
(oSet (xLook (lkUn .not g7)) p8 
oEnd))) (kCond g8 (kSeq (oSet (xLook (lkBuild q14 [])) p9 
(oDo (xTurn (tnStore (nat_lit 67) g4 g9)) 
(oSet (xMove q0) p5 
oEnd))) kRet) kSkip)) (kSeq (oSet (xMove g0) p10 
(oSet (xNil g10) p11 
(oSet (xLook (lkFieldAddr (nat_lit 1) g11)) p12 
(oSet (xLook (lkLoad1 g12)) p13 
(oSet (xMove g1) p14 
(oSet (xCall q33 [g13, g14]) p15 
(oSet (xLook (lkExtract (nat_lit 0) g15)) p16 
(oSet (xLook (lkExtract (nat_lit 1) g15)) p17 
(oDo (xTurn (tnStore (nat_lit 67) g4 g16)) 
(oSet (xMove g17) p5 
oEnd)))))))))) kRet)))⟩
def q34 : OpdF := kC (.func (.func (nat_lit 40)) ⟨[]⟩ ⟨[]⟩)
def q35 : OpdF := kC (.int .i64 (.ofNat (nat_lit 2)))
def q36 : OpdF := kC (.int .i64 (.ofNat (nat_lit 7)))
def q37 : OpdF := kC (.int .i64 (.ofNat (nat_lit 16)))
def q38 : OpdF := kC (.int .i64 (.ofNat (nat_lit 8)))
noncomputable def k10 : KFun := ⟨[rTmp (nat_lit 4) g4], (kSeq (oSet (xTurn (tnBox g0)) p2 
(oSet (xTurn (tnBox g1)) p3 
(oSet (xMove q6) p4 
oEnd))) (kSeq (kSeq (oSet (xLook (lkLoad1 g2)) p7 
(oSet (xCall q29 [g7]) p8 
(oSet (xLook (lkUn .not g8)) p9 
oEnd))) (kCond g9 (kSeq (oSet (xMove q16) p4 
oEnd) kRet) kSkip)) (kSeq (oSet (xLook (lkLoad1 g2)) p11 
(oSet (xLook (lkLoad1 g3)) p12 
(oSet (xCall q13 [g11, g12]) p13 
(oSet (xMove g13) p10 
(oSet (xLook (lkExtract (nat_lit 0) g10)) p14 
(oSet (xLook (lkExtract (nat_lit 1) g10)) p15 
(oSet (xTurn (tnAlloc q14)) p5 
(oDo (xTurn (tnStore (nat_lit 67) g5 g14)) 
(oSet (xMove g15) p6 
oEnd))))))))) (kSeq (kBlock (nat_lit 0) (kSeq (oSet (xLook (lkLoad1 g3)) p17 
(oSet (xCall q34 [g17]) p18 
(oSet (xLook (lkUn .not g18)) p19 
(oSet (xMove g19) p16 
oEnd)))) (kCond g16 (kSeq (oSet (xMove q35) p4 
oEnd) kRet) (kSeq (oSet (xMove g6) p21 
(oSet (xMove g21) p20 
oEnd)) (kCond g20 (kSeq (oSet (xMove q36) p4 
oEnd) kRet) (kSeq (oSet (xLook (lkLoad1 g2)) p23 
(oSet (xNil g23) p24 
(oSet (xLook (lkFieldAddr (nat_lit 1) g24)) p25 
(oSet (xLook (lkLoad1 g25)) p26 
(oSet (xLook (lkLen .sl g26)) p27 
(oSet (xLook (lkBin .geq g27 q37)) p28 
(oSet (xMove g28) p22 
oEnd))))))) (kCond g22 (kSeq (oSet (xMove q38) p4 
oEnd) kRet) kSkip))))))) (kSeq (oSet (xLook (lkMkFunc (.func (nat_lit 41)) [] [g2, g3])) p29 
(oSet (xCall q30 [g29]) p30 
(oSet (xMove g30) p4 
oEnd))) kRet)))))⟩
noncomputable def k11 : KFun := ⟨[rTmp (nat_lit 6) g6], (kSeq (oSet (xTurn (tnBox g0)) p3 
(oSet (xTurn (tnBox g1)) p4 
(oSet (xTurn (tnBox g2)) p5 
(oSet (xMove q6) p6 
oEnd)))) (kSeq (kSeq (oSet (xLook (lkLoad1 g3)) p7 
(oSet (xCall q29 [g7]) p8 
(oSet (xLook (lkUn .not g8)) p9 
oEnd))) (kCond g9 (kSeq (oSet (xMove q16) p6 
oEnd) kRet) kSkip)) (kSeq (oSet (xLook (lkMkFunc (.func (nat_lit 42)) [] [g3, g4, g5])) p10 
(oSet (xCall q30 [g10]) p11 
(oSet (xMove g11) p6 
oEnd))) kRet)))⟩
noncomputable def k12 : KFun := ⟨[rTmp (nat_lit 2) g2], (kSeq (oSet (xMove q5) p2 
oEnd) (kSeq (kSeq (oSet (xMove g0) p3 
(oSet (xCall q29 [g3]) p4 
(oSet (xLook (lkUn .not g4)) p5 
oEnd))) (kCond g5 (kSeq (oSet (xMove q5) p2 
oEnd) kRet) kSkip)) (kSeq (oSet (xMove g0) p6 
(oSet (xNil g6) p7 
(oSet (xLook (lkFieldAddr (nat_lit 0) g7)) p8 
(oSet (xLook (lkFieldAddr (nat_lit 0) g8)) p9 
(oSet (xLook (lkLoad1 g9)) p10 
(oSet (xMove g10) p2 
oEnd)))))) kRet)))⟩
noncomputable def k13 : KFun := ⟨[rTmp (nat_lit 6) g6], (kSeq (oSet (xTurn (tnBox g0)) p3 
(oSet (xTurn (tnBox g1)) p4 
(oSet (xTurn (tnBox g2)) p5 
(oSet (xMove q6) p6 
oEnd)))) (kSeq (kSeq (oSet (xLook (lkLoad1 g3)) p9 
(oSet (xCall q29 [g9]) p10 
(oSet (xLook (lkUn .not g10)) p11 
oEnd))) (kCond g11 (kSeq (oSet (xMove q16) p6 
oEnd) kRet) kSkip)) (kSeq (kSeq (oSet (xLook (lkLoad1 g4)) p12 
(oSet (xCall q34 [g12]) p13 
(oSet (xLook (lkUn .not g13)) p14 
oEnd))) (kCond g14 (kSeq (oSet (xMove q35) p6 
oEnd) kRet) kSkip)) (kSeq (kSeq (oSet (xLook (lkLoad1 g3)) p16 
(oSet (xLook (lkLoad1 g4)) p17 
(oSet (xCall q13 [g16, g17]) p18 
(oSet (xMove g18) p15 
(oSet (xLook (lkExtract (nat_lit 0) g15)) p19 
(oSet (xLook (lkExtract (nat_lit 1) g15)) p20 
(oSet (xTurn (tnAlloc q14)) p7 
(oDo (xTurn (tnStore (nat_lit 67) g7 g19)) 
(oSet (xMove g20) p8 
oEnd))))))))) (kSeq (oSet (xMove g8) p21 
(oSet (xLook (lkUn .not g21)) p22 
(oSet (xMove g22) p23 
(oSetIf (wantT g23) (xLook (lkLoad1 g3)) p24 
(oSetIf (wantT g23) (xNil g24) p25 
(oSetIf (wantT g23) (xLook (lkFieldAddr (nat_lit 1) g25)) p26 
(oSetIf (wantT g23) (xLook (lkLoad1 g26)) p27 
(oSetIf (wantT g23) (xLook (lkLen .sl g27)) p28 
(oSetIf (wantT g23) (xLook (lkBin .geq g28 q37)) p29 
(oSet (xLook (lkPick g23 g29 q0)) p30 
oEnd)))))))))) (kCond g30 (kSeq (oSet (xMove q38) p6 
oEnd) kRet) kSkip))) (kSeq (oSet (xLook (lkMkFunc (.func (nat_lit 45)) [] [g5, g3, g4])) p31 
(oSet (xCall q30 [g31]) p32 
(oSet (xMove g32) p6 
oEnd))) kRet)))))⟩
def q39 : OpdF := kC (.func (.func (nat_lit 46)) ⟨[]⟩ ⟨[]⟩)
noncomputable def k14 : KFun := ⟨[rTmp (nat_lit 4) g4], (kSeq (oSet (xMove q6) p4 
oEnd) (kSeq (kSeq (oSet (xMove g0) p7 
(oSet (xCall q29 [g7]) p8 
(oSet (xLook (lkUn .not g8)) p9 
oEnd))) (kCond g9 (kSeq (oSet (xMove q16) p4 
oEnd) kRet) kSkip)) (kSeq (oSet (xMove g0) p11 
(oSet (xNil g11) p12 
(oSet (xLook (lkFieldAddr (nat_lit 1) g12)) p13 
(oSet (xLook (lkLoad1 g13)) p14 
(oSet (xMove g1) p15 
(oSet (xCall q39 [g14, g15]) p16 
(oSet (xMove g16) p10 
(oSet (xLook (lkExtract (nat_lit 0) g10)) p17 
(oSet (xLook (lkExtract (nat_lit 1) g10)) p18 
(oSet (xMove g17) p5 
(oSet (xMove g18) p6 
oEnd))))))))))) (kSeq (kSeq (oSet (xMove g6) p19 
(oSet (xLook (lkEq false .int g19 q6)) p20 
oEnd)) (kCond g20 (oSet (xMove g0) p21 
(oSet (xMove g5) p22 
(oSet (xNil g21) p23 
(oSet (xLook (lkFieldAddr (nat_lit 1) g23)) p24 
(oDo (xTurn (tnStore (nat_lit 1) g24 g22)) 
oEnd))))) kSkip)) (kSeq (oSet (xMove g6) p25 
(oSet (xMove g25) p4 
oEnd)) kRet)))))⟩
def q40 : OpdF := kC (.func (.func (nat_lit 47)) ⟨[]⟩ ⟨[]⟩)
noncomputable def k15 : KFun := ⟨[rTmp (nat_lit 6) g6], (kSeq (oSet (xMove q6) p6 
oEnd) (kSeq (kSeq (oSet (xMove g0) p9 
(oSet (xCall q29 [g9]) p10 
(oSet (xLook (lkUn .not g10)) p11 
oEnd))) (kCond g11 (kSeq (oSet (xMove q16) p6 
oEnd) kRet) kSkip)) (kSeq (oSet (xMove g0) p13 
(oSet (xNil g13) p14 
(oSet (xLook (lkFieldAddr (nat_lit 1) g14)) p15 
(oSet (xLook (lkLoad1 g15)) p16 
(oSet (xMove g1) p17 
(oSet (xMove g2) p18 
(oSet (xCall q40 [g16, g17, g18]) p19 
(oSet (xMove g19) p12 
(oSet (xLook (lkExtract (nat_lit 0) g12)) p20 
(oSet (xLook (lkExtract (nat_lit 1) g12)) p21 
(oSet (xMove g20) p7 
(oSet (xMove g21) p8 
oEnd)))))))))))) (kSeq (kSeq (oSet (xMove g8) p22 
(oSet (xLook (lkEq false .int g22 q6)) p23 
oEnd)) (kCond g23 (oSet (xMove g0) p24 
(oSet (xMove g7) p25 
(oSet (xNil g24) p26 
(oSet (xLook (lkFieldAddr (nat_lit 1) g26)) p27 
(oDo (xTurn (tnStore (nat_lit 1) g27 g25)) 
oEnd))))) kSkip)) (kSeq (oSet (xMove g8) p28 
(oSet (xMove g28) p6 
oEnd)) kRet)))))⟩
noncomputable def k16 : KFun := ⟨[rTmp (nat_lit 2) g2], (kSeq (oSet (xTurn (tnBox g0)) p1 
(oSet (xMove q6) p2 
oEnd)) (kSeq (kSeq (oSet (xLook (lkLoad1 g1)) p3 
(oSet (xCall q29 [g3]) p4 
(oSet (xLook (lkUn .not g4)) p5 
oEnd))) (kCond g5 (kSeq (oSet (xMove q16) p2 
oEnd) kRet) kSkip)) (kSeq (oSet (xLook (lkMkFunc (.func (nat_lit 48)) [] [g1])) p6 
(oSet (xCall q30 [g6]) p7 
(oSet (xMove g7) p2 
oEnd))) kRet)))⟩
def q41 : OpdF := kC (.func (.func (nat_lit 52)) ⟨[]⟩ ⟨[]⟩)
def q42 : OpdF := kC (.func (.func (nat_lit 53)) ⟨[]⟩ ⟨[]⟩)
noncomputable def k17 : KFun := ⟨[rTmp (nat_lit 2) g2], (kSeq (oSet (xMove q6) p2 
oEnd) (kSeq (kSeq (oSet (xMove g0) p4 
(oSet (xCall q29 [g4]) p5 
(oSet (xLook (lkUn .not g5)) p6 
oEnd))) (kCond g6 (kSeq (oSet (xMove q16) p2 
oEnd) kRet) kSkip)) (kSeq (kSeq (oSet (xMove g0) p7 
(oSet (xNil g7) p8 
(oSet (xLook (lkFieldAddr (nat_lit 0) g8)) p9 
(oSet (xLook (lkFieldAddr (nat_lit 0) g9)) p10 
(oSet (xLook (lkLoad1 g10)) p11 
(oSet (xCall q41 [g11]) p12 
(oSet (xMove g12) p3 
oEnd))))))) (kSeq (oSet (xMove g3) p13 
(oSet (xLook (lkEq true .int g13 q6)) p14 
oEnd)) (kCond g14 (kSeq (oSet (xMove g3) p15 
(oSet (xMove g15) p2 
oEnd)) kRet) kSkip))) (kSeq (oSet (xMove g0) p16 
(oSet (xCall q42 [g16]) p17 
(oSet (xMove g17) p2 
oEnd))) kRet))))⟩
def q43 : OpdF := kC (.func (.func (nat_lit 54)) ⟨[]⟩ ⟨[]⟩)
def q44 : OpdF := kC (.func (.func (nat_lit 55)) ⟨[]⟩ ⟨[]⟩)
noncomputable def k18 : KFun := ⟨[rTmp (nat_lit 2) g2], (kSeq (oSet (xMove q18) p2 
oEnd) (kSeq (kSeq (oSet (xMove g0) p5 
(oSet (xCall q29 [g5]) p6 
(oSet (xLook (lkUn .not g6)) p7 
oEnd))) (kCond g7 (kSeq (oSet (xMove q18) p2 
oEnd) kRet) kSkip)) (kSeq (oSet (xMove g0) p8 
(oSet (xNil g8) p9 
(oSet (xLook (lkFieldAddr (nat_lit 1) g9)) p10 
(oSet (xLook (lkLoad1 g10)) p11 
(oSet (xCall q43 [g11]) p12 
(oSet (xMove g12) p3 
oEnd)))))) (kSeq (kSeq (oSet (xMove g3) p13 
(oSet (xLook (lkLen .sl g13)) p14 
(oSet (xMove q6) p15 
oEnd))) (kBlock (nat_lit 0) (kLoop (kSeq (oSet (xLook (lkBin .lss g15 g14)) p16 
oEnd) (kSeq (kCond g16 kSkip (kExit (nat_lit 0))) (kSeq (kBlock (nat_lit 1) (kSeq (oSet (xMove g15) p17 
(oSet (xMove g17) p4 
oEnd)) (oSet (xMove g3) p18 
(oSet (xMove g4) p19 
(oSet (xMove g3) p20 
(oSet (xMove g4) p21 
(oSet (xLook (lkIxSl (nat_lit 67) g20 g21)) p22 
(oSet (xLook (lkFieldAddr (nat_lit 66) g22)) p23 
(oSet (xLook (lkLoad1 g23)) p24 
(oSet (xCall q44 [g24]) p25 
(oSet (xLook (lkIxSl (nat_lit 67) g18 g19)) p26 
(oSet (xLook (lkFieldAddr (nat_lit 66) g26)) p27 
(oDo (xTurn (tnStore (nat_lit 1) g27 g25)) 
oEnd))))))))))))) (oSet (xLook (lkBin .add g15 q16)) p28 
(oSet (xMove g28) p15 
oEnd)))))))) (kSeq (oSet (xMove g3) p29 
(oSet (xMove g29) p2 
oEnd)) kRet)))))⟩
def q45 : OpdF := kC (.func (.func (nat_lit 56)) ⟨[]⟩ ⟨[]⟩)
def q46 : List Value := [(.pointer none)]
noncomputable def k19 : KFun := ⟨[rTmp (nat_lit 2) g2, rTmp (nat_lit 3) g3], (kSeq (oSet (xMove q5) p2 
(oSet (xMove q6) p3 
oEnd)) (kSeq (kSeq (oSet (xMove g0) p6 
(oSet (xCall q45 [g6]) p7 
(oSet (xLook (lkUn .not g7)) p8 
oEnd))) (kCond g8 (kSeq (oSet (xMove q5) p2 
(oSet (xMove q16) p3 
oEnd)) kRet) kSkip)) (kSeq (oSet (xMove g0) p9 
(oSet (xLook (lkBuild q46 [((nat_lit 0), (nat_lit 1), g9)])) p10 
(oSet (xLook (lkBuild q3 [((nat_lit 0), (nat_lit 1), g10)])) p11 
(oSet (xTurn (tnBox g11)) p12 
(oSet (xMove g12) p4 
oEnd))))) (kSeq (kSeq (oSet (xMove g4) p13 
(oSet (xCall q42 [g13]) p14 
(oSet (xMove g14) p5 
oEnd))) (kSeq (oSet (xMove g5) p15 
(oSet (xLook (lkEq true .int g15 q6)) p16 
oEnd)) (kCond g16 (kSeq (oSet (xMove g5) p17 
(oSet (xMove q5) p2 
(oSet (xMove g17) p3 
oEnd))) kRet) kSkip))) (kSeq (oSet (xMove g4) p18 
(oSet (xMove g18) p2 
(oSet (xMove q6) p3 
oEnd))) kRet)))))⟩
def q47 : OpdF := kC (.func (.func (nat_lit 57)) ⟨[]⟩ ⟨[]⟩)
def q48 : OpdF := kC (.int .i64 (.ofNat (nat_lit 400)))
def q49 : OpdF := kC (.string ⟨⟨[109]⟩⟩)
def q50 : OpdF := kC (.func (.func (nat_lit 58)) ⟨[]⟩ ⟨[]⟩)
def q51 : List Value := [(.slice none (nat_lit 0) (nat_lit 0)), (.slice none (nat_lit 0) (nat_lit 0))]
def q52 : List Value := [(.string ⟨⟨[]⟩⟩), (.string ⟨⟨[]⟩⟩)]
def q53 : OpdF := kC (.string ⟨⟨[97]⟩⟩)
def q54 : OpdF := kC (.func (.func (nat_lit 59)) ⟨[]⟩ ⟨[]⟩)
noncomputable def k20 : KFun := ⟨[rTmp (nat_lit 0) g0], (kSeq (oSet (xMove q0) p0 
oEnd) (kSeq (oSet (xCall q47 [q48]) p4 
(oSet (xMove g4) p3 
(oSet (xLook (lkExtract (nat_lit 0) g3)) p5 
(oSet (xLook (lkExtract (nat_lit 1) g3)) p6 
(oSet (xMove g5) p1 
(oSet (xMove g6) p2 
oEnd)))))) (kSeq (oSet (xMove g2) p7 
(oSet (xLook (lkEq true .ptr g7 q5)) p8 
(oSet (xMove g8) p9 
(oSetIf (wantT g9) (xMove g2) p10 
(oSetIf (wantT g9) (xCall q15 [g10, q49]) p11 
(oSetIf (wantT g9) (xLook (lkEq false .int g11 q6)) p12 
(oSet (xLook (lkPick g9 g12 q0)) p13 
(oSet (xMove g13) p14 
(oSetIf (wantT g14) (xMove g2) p15 
(oSetIf (wantT g14) (xCall q50 []) p16 
(oSetIf (wantT g14) (xCall q50 []) p17 
(oSetIf (wantT g14) (xTurn (tnBuildSlice q51 [((nat_lit 0), (nat_lit 1), g16), ((nat_lit 1), (nat_lit 1), g17)] (nat_lit 2))) p18 
(oSetIf (wantT g14) (xCall q17 [g15, q49, g18]) p19 
(oSetIf (wantT g14) (xLook (lkEq false .int g19 q6)) p20 
(oSet (xLook (lkPick g14 g20 q0)) p21 
(oSet (xMove g21) p22 
(oSetIf (wantT g22) (xMove g2) p23 
(oSetIf (wantT g22) (xLook (lkBuild q52 [((nat_lit 0), (nat_lit 1), q53), ((nat_lit 1), (nat_lit 1), q53)])) p24 
(oSetIf (wantT g22) (xTurn (tnBuildSlice q52 [((nat_lit 0), (nat_lit 2), g24)] (nat_lit 1))) p25 
(oSetIf (wantT g22) (xCall q54 [g23, q49, q16, g25]) p26 
(oSet (xLook (lkPick g22 g26 q0)) p27 
(oSet (xMove g27) p0 
oEnd)))))))))))))))))))))) kRet)))⟩
noncomputable def k21 : KFun := ⟨[rTmp (nat_lit 2) g2], (kSeq (oSet (xMove q0) p2 
oEnd) (kSeq (oSet (xMove g0) p3 
(oSet (xLook (lkEq true .ptr g3 q5)) p4 
(oSet (xMove g4) p5 
(oSetIf (wantT g5) (xMove g0) p6 
(oSetIf (wantT g5) (xNil g6) p7 
(oSetIf (wantT g5) (xLook (lkFieldAddr (nat_lit 0) g7)) p8 
(oSetIf (wantT g5) (xLook (lkFieldAddr (nat_lit 0) g8)) p9 
(oSetIf (wantT g5) (xLook (lkLoad1 g9)) p10 
(oSetIf (wantT g5) (xLook (lkEq true .ptr g10 q5)) p11 
(oSet (xLook (lkPick g5 g11 q0)) p12 
(oSet (xMove g12) p2 
oEnd))))))))))) kRet))⟩
def q55 : List Value := [(.int .i64 (.ofNat (nat_lit 0)))]
noncomputable def k22 : KFun := ⟨[rCell1 (nat_lit 2) g2], (kSeq (oSet (xTurn (tnAlloc q55)) p2 
oEnd) (kSeq (oSet (xLook (lkMkFunc (.func (nat_lit 60)) [] [g2])) p3 
(oDo (xDefer g3 []) 
oEnd)) (kSeq (oSet (xMove g0) p4 
(oSet (xCall g4 []) p5 
oEnd)) (kSeq (oDo (xTurn (tnStore (nat_lit 1) g2 q6)) 
oEnd) kRet))))⟩
def q56 : OpdF := kC (.func (.func (nat_lit 24)) ⟨[]⟩ ⟨[]⟩)
def q57 : OpdF := kC (.func (.func (nat_lit 25)) ⟨[]⟩ ⟨[]⟩)
def q60 : OpdF := kC (.func (.func (nat_lit 28)) ⟨[]⟩ ⟨[]⟩)
def q62 : OpdF := kC (.func (.func (nat_lit 30)) ⟨[]⟩ ⟨[]⟩)
def q63 : OpdF := kC (.int .i64 (.ofNat (nat_lit 6)))
noncomputable def k24 : KFun := ⟨[rCellN (nat_lit 4) g4 (nat_lit 67)], (kSeq (oSet (xTurn (tnAlloc q14)) p4 
oEnd) (kSeq (oSet (xMove g0) p8 
(oSet (xMove g1) p9 
(oSet (xCall q13 [g8, g9]) p10 
(oSet (xMove g10) p7 
(oSet (xLook (lkExtract (nat_lit 0) g7)) p11 
(oSet (xLook (lkExtract (nat_lit 1) g7)) p12 
(oSet (xTurn (tnAlloc q14)) p5 
(oDo (xTurn (tnStore (nat_lit 67) g5 g11)) 
(oSet (xMove g12) p6 
oEnd))))))))) (kSeq (kSeq (oSet (xMove g6) p13 
(oSet (xLook (lkUn .not g13)) p14 
oEnd)) (kCond g14 (oSet (xCall q60 [q63]) p15 
oEnd) kSkip)) (kSeq (oSet (xLook (lkLoadN (nat_lit 67) g5)) p16 
(oDo (xTurn (tnStore (nat_lit 67) g4 g16)) 
oEnd)) kRet))))⟩
def q64 : OpdF := kC (.func (.func (nat_lit 61)) ⟨[]⟩ ⟨[]⟩)
def q65 : OpdF := kC (.func (.func (nat_lit 62)) ⟨[]⟩ ⟨[]⟩)
def q66 : List Value := [(.int .i64 (.ofNat (nat_lit 0))), (.int .i64 (.ofNat (nat_lit 0)))]
def q67 : OpdF := kC (.int .i64 (.ofNat (nat_lit 11)))
noncomputable def k25 : KFun := ⟨[rTmp (nat_lit 4) g4], (kSeq (oSet (xTurn (tnBox g0)) p2 
(oSet (xTurn (tnBox g1)) p3 
(oSet (xMove q18) p4 
oEnd))) (kSeq (oSet (xLook (lkFieldAddr (nat_lit 0) g2)) p13 
(oSet (xLook (lkLoad1 g13)) p14 
(oSet (xLook (lkFieldAddr (nat_lit 1) g3)) p15 
(oSet (xLook (lkLoadN (nat_lit 32) g15)) p16 
(oSet (xCall q64 [g14, g16]) p17 
(oSet (xMove g17) p12 
(oSet (xLook (lkExtract (nat_lit 0) g12)) p18 
(oSet (xLook (lkExtract (nat_lit 1) g12)) p19 
(oSet (xMove g18) p5 
(oSet (xMove g19) p6 
oEnd)))))))))) (kSeq (oSet (xMove g6) p20 
(oSet (xCall q60 [g20]) p21 
oEnd)) (kSeq (oSet (xMove q18) p7 
oEnd) (kSeq (kSeq (oSet (xMove g5) p22 
(oSet (xLook (lkLen .sl g22)) p23 
(oSet (xMove q6) p24 
oEnd))) (kBlock (nat_lit 0) (kLoop (kSeq (oSet (xLook (lkBin .lss g24 g23)) p25 
oEnd) (kSeq (kCond g25 kSkip (kExit (nat_lit 0))) (kSeq (kBlock (nat_lit 1) (kSeq (oSet (xLook (lkIxSl (nat_lit 1) g22 g24)) p26 
(oSet (xLook (lkLoad1 g26)) p27 
(oSet (xMove g27) p9 
oEnd))) (kSeq (oSet (xMove g9) p29 
(oSet (xTurn (tnToBytes g29)) p30 
(oSet (xCall q65 [g30]) p31 
(oSet (xMove g31) p28 
(oSet (xLook (lkExtract (nat_lit 0) g28)) p32 
(oSet (xLook (lkExtract (nat_lit 1) g28)) p33 
(oSet (xTurn (tnAlloc q66)) p11 
(oSet (xMove g32) p10 
(oDo (xTurn (tnStore (nat_lit 2) g11 g33)) 
oEnd))))))))) (kSeq (kSeq (oSet (xLook (lkFieldAddr (nat_lit 0) g11)) p34 
(oSet (xLook (lkLoad1 g34)) p35 
(oSet (xLook (lkEq true .int g35 q6)) p36 
oEnd))) (kCond g36 (oSet (xCall q60 [q67]) p37 
oEnd) kSkip)) (oSet (xMove g7) p38 
(oSet (xMove g10) p39 
(oSet (xTurn (tnBuildSlice q28 [((nat_lit 0), (nat_lit 1), g39)] (nat_lit 1))) p40 
(oSet (xTurn (tnAppend (nat_lit 1) g38 g40)) p41 
(oSet (xMove g41) p7 
oEnd))))))))) (oSet (xLook (lkBin .add g24 q16)) p42 
(oSet (xMove g42) p24 
oEnd)))))))) (kSeq (kSeq (oSet (xMove g7) p43 
(oSet (xLook (lkLen .sl g43)) p44 
(oSet (xLook (lkFieldAddr (nat_lit 65) g3)) p45 
(oSet (xLook (lkLoad1 g45)) p46 
(oSet (xLook (lkEq true .int g44 g46)) p47 
oEnd))))) (kCond g47 (oSet (xCall q60 [q67]) p48 
oEnd) kSkip)) (kSeq (oSet (xMove g7) p49 
(oSet (xMove g49) p4 
oEnd)) kRet)))))))⟩
def q68 : List Value := [(.int .i64 (.ofNat (nat_lit 0))), (.int .i64 (.ofNat (nat_lit 0))), (.slice none (nat_lit 0) (nat_lit 0)), (.slice none (nat_lit 0) (nat_lit 0)), (.slice none (nat_lit 0) (nat_lit 0))]
def q69 : OpdF := kC (.func (.func (nat_lit 63)) ⟨[]⟩ ⟨[]⟩)
def q75 : OpdF := kC (.func (.func (nat_lit 70)) ⟨[]⟩ ⟨[]⟩)
noncomputable def k28 : KFun := ⟨[], (kSeq (oSet (xMove g0) p2 
(oSet (xLook (lkEq true .int g2 q6)) p3 
oEnd)) (kCond g3 (oSet (xMove g0) p4 
(oSet (xLook (lkBuild q55 [((nat_lit 0), (nat_lit 1), g4)])) p5 
(oSet (xLook (lkMkIface (nat_lit 109) g5)) p6 
(oDo (xPanic g6) 
oEnd)))) kSkip))⟩
def q76 : OpdF := kC (.func (.func (nat_lit 43)) ⟨[]⟩ ⟨[]⟩)
def q77 : OpdF := kC (.int .i64 (.ofNat (nat_lit 5)))
def q81 : OpdF := kC (.func (.func (nat_lit 74)) ⟨[]⟩ ⟨[]⟩)
def q82 : OpdF := kC (.int .i64 (.ofNat (nat_lit 500)))
def q83 : OpdF := kC (.int .i64 (.ofNat (nat_lit 3)))
def q85 : OpdF := kC (.func (.func (nat_lit 76)) ⟨[]⟩ ⟨[]⟩)
def q86 : OpdF := kC (.func (.func (nat_lit 77)) ⟨[]⟩ ⟨[]⟩)
def q87 : OpdF := kC (.func (.func (nat_lit 78)) ⟨[]⟩ ⟨[]⟩)
def q88 : OpdF := kC (.func (.func (nat_lit 79)) ⟨[]⟩ ⟨[]⟩)
def q89 : OpdF := kC (.func (.func (nat_lit 80)) ⟨[]⟩ ⟨[]⟩)
def q90 : OpdF := kC (.func (.func (nat_lit 81)) ⟨[]⟩ ⟨[]⟩)
def q91 : List Value := [(.int .u8 (.ofNat (nat_lit 0))), (.int .u8 (.ofNat (nat_lit 0))), (.int .u8 (.ofNat (nat_lit 0))), (.int .u8 (.ofNat (nat_lit 0))), (.int .u8 (.ofNat (nat_lit 0))), (.int .u8 (.ofNat (nat_lit 0))), (.int .u8 (.ofNat (nat_lit 0))), (.int .u8 (.ofNat (nat_lit 0))), (.int .u8 (.ofNat (nat_lit 0))), (.int .u8 (.ofNat (nat_lit 0))), (.int .u8 (.ofNat (nat_lit 0))), (.int .u8 (.ofNat (nat_lit 0))), (.int .u8 (.ofNat (nat_lit 0))), (.int .u8 (.ofNat (nat_lit 0))), (.int .u8 (.ofNat (nat_lit 0))), (.int .u8 (.ofNat (nat_lit 0))), (.int .u8 (.ofNat (nat_lit 0))), (.int .u8 (.ofNat (nat_lit 0))), (.int .u8 (.ofNat (nat_lit 0))), (.int .u8 (.ofNat (nat_lit 0))), (.int .u8 (.ofNat (nat_lit 0))), (.int .u8 (.ofNat (nat_lit 0))), (.int .u8 (.ofNat (nat_lit 0))), (.int .u8 (.ofNat (nat_lit 0))), (.int .u8 (.ofNat (nat_lit 0))), (.int .u8 (.ofNat (nat_lit 0))), (.int .u8 (.ofNat (nat_lit 0))), (.int .u8 (.ofNat (nat_lit 0))), (.int .u8 (.ofNat (nat_lit 0))), (.int .u8 (.ofNat (nat_lit 0))), (.int .u8 (.ofNat (nat_lit 0))), (.int .u8 (.ofNat (nat_lit 0)))]
def q92 : List Value := [(.int .i64 (.ofNat (nat_lit 0))), (.int .u8 (.ofNat (nat_lit 0))), (.int .u8 (.ofNat (nat_lit 0))), (.int .u8 (.ofNat (nat_lit 0))), (.int .u8 (.ofNat (nat_lit 0))), (.int .u8 (.ofNat (nat_lit 0))), (.int .u8 (.ofNat (nat_lit 0))), (.int .u8 (.ofNat (nat_lit 0))), (.int .u8 (.ofNat (nat_lit 0))), (.int .u8 (.ofNat (nat_lit 0))), (.int .u8 (.ofNat (nat_lit 0))), (.int .u8 (.ofNat (nat_lit 0))), (.int .u8 (.ofNat (nat_lit 0))), (.int .u8 (.ofNat (nat_lit 0))), (.int .u8 (.ofNat (nat_lit 0))), (.int .u8 (.ofNat (nat_lit 0))), (.int .u8 (.ofNat (nat_lit 0))), (.int .u8 (.ofNat (nat_lit 0))), (.int .u8 (.ofNat (nat_lit 0))), (.int .u8 (.ofNat (nat_lit 0))), (.int .u8 (.ofNat (nat_lit 0))), (.int .u8 (.ofNat (nat_lit 0))), (.int .u8 (.ofNat (nat_lit 0))), (.int .u8 (.ofNat (nat_lit 0))), (.int .u8 (.ofNat (nat_lit 0))), (.int .u8 (.ofNat (nat_lit 0))), (.int .u8 (.ofNat (nat_lit 0))), (.int .u8 (.ofNat (nat_lit 0))), (.int .u8 (.ofNat (nat_lit 0))), (.int .u8 (.ofNat (nat_lit 0))), (.int .u8 (.ofNat (nat_lit 0))), (.int .u8 (.ofNat (nat_lit 0))), (.int .u8 (.ofNat (nat_lit 0)))]
def q93 : OpdF := kC (.func (.func (nat_lit 82)) ⟨[]⟩ ⟨[]⟩)
noncomputable def k30 : KFun := ⟨[], (kSeq (oSet (xMove g1) p16 
(oSet (xMove g2) p17 
(oSet (xLook (lkLen .sl g17)) p18 
(oSet (xLook (lkBuild q14 [((nat_lit 0), (nat_lit 1), g16), ((nat_lit 65), (nat_lit 1), g18)])) p19 
(oSet (xTurn (tnAlloc q14)) p8 
(oDo (xTurn (tnStore (nat_lit 67) g8 g19)) 
oEnd)))))) (kSeq (oSet (xMove q6) p9 
oEnd) (kSeq (kDraw 
(dLook (nat_lit 0) [] [] (lkMove g0) p21 
(dTurn (nat_lit 1) [] [] false (xNil g21) p22 
(dLook (nat_lit 2) [] [] (lkFieldAddr (nat_lit 0) g22) p23 
(dLook (nat_lit 3) [] [] (lkFieldAddr (nat_lit 0) g23) p24 
(dLook (nat_lit 4) [] [] (lkLoad1 g24) p25 
(dLook (nat_lit 5) [] [] (lkMove g2) p26 
(dTurn (nat_lit 6) [(nat_lit 4)] [] true (xCall q86 [g26]) p27 
(dTurn (nat_lit 7) [] [(nat_lit 6)] true (xCall q85 [g25, g27]) p28 
(dLook (nat_lit 8) [] [(nat_lit 6), (nat_lit 7)] (lkMove g28) p20 
(dLook (nat_lit 9) [] [(nat_lit 6), (nat_lit 7)] (lkExtract (nat_lit 0) g20) p29 
(dLook (nat_lit 10) [] [(nat_lit 6), (nat_lit 7)] (lkExtract (nat_lit 1) g20) p30 
(dLook (nat_lit 11) [] [(nat_lit 6), (nat_lit 7)] (lkFieldAddr (nat_lit 1) g8) p31 
(dTurn (nat_lit 12) [] [(nat_lit 6), (nat_lit 7)] true (xTurn (tnStore (nat_lit 32) g31 g29)) noDst 
(dLook (nat_lit 13) [] [(nat_lit 6), (nat_lit 7), (nat_lit 12)] (lkMove g30) p9 (dEnd [(nat_lit 21), (nat_lit 22), (nat_lit 23), (nat_lit 24), (nat_lit 25), (nat_lit 26), (nat_lit 27), (nat_lit 28), (nat_lit 20), (nat_lit 29), (nat_lit 30), (nat_lit 31), (nat_lit 9)])))))))))))))))) (kSeq (oSet (xMove g9) p32 
(oSet (xCall q60 [g32]) p33 
oEnd)) (kSeq (oSet (xMove g0) p35 
(oSet (xNil g35) p36 
(oSet (xLook (lkFieldAddr (nat_lit 0) g36)) p37 
(oSet (xLook (lkFieldAddr (nat_lit 0) g37)) p38 
(oSet (xLook (lkLoad1 g38)) p39 
(oSet (xMove g3) p40 
(oSet (xCall q87 [g39, g40]) p41 
(oSet (xMove g41) p34 
(oSet (xLook (lkExtract (nat_lit 0) g34)) p42 
(oSet (xLook (lkExtract (nat_lit 1) g34)) p43 
(oSet (xLook (lkFieldAddr (nat_lit 33) g8)) p44 
(oDo (xTurn (tnStore (nat_lit 32) g44 g42)) 
(oSet (xMove g43) p9 
oEnd))))))))))))) (kSeq (oSet (xMove g9) p45 
(oSet (xCall q60 [g45]) p46 
oEnd)) (kSeq (kSeq (oSet (xMove g2) p47 
(oSet (xLook (lkLen .sl g47)) p48 
(oSet (xCall q88 [g48]) p49 
(oSet (xLook (lkLen .sl g49)) p50 
(oSet (xMove q6) p51 
oEnd))))) (kBlock (nat_lit 0) (kLoop (kSeq (oSet (xLook (lkBin .lss g51 g50)) p52 
oEnd) (kSeq (kCond g52 kSkip (kExit (nat_lit 0))) (kSeq (kBlock (nat_lit 1) (kSeq (oSet (xLook (lkIxSl (nat_lit 1) g49 g51)) p53 
(oSet (xLook (lkLoad1 g53)) p54 
(oSet (xMove g54) p11 
oEnd))) (kSeq (oSet (xMove g3) p56 
(oSet (xMove g11) p57 
(oSet (xCall q89 [g56, g57]) p58 
(oSet (xMove g58) p55 
(oSet (xLook (lkExtract (nat_lit 0) g55)) p59 
(oSet (xLook (lkExtract (nat_lit 1) g55)) p60 
(oSet (xMove g59) p12 
(oSet (xMove g60) p13 
oEnd)))))))) (kSeq (oSet (xMove g13) p61 
(oSet (xCall q60 [g61]) p62 
oEnd)) (kSeq (oSet (xMove g0) p64 
(oSet (xNil g64) p65 
(oSet (xLook (lkFieldAddr (nat_lit 0) g65)) p66 
(oSet (xLook (lkFieldAddr (nat_lit 0) g66)) p67 
(oSet (xLook (lkLoad1 g67)) p68 
(oSet (xMove g12) p69 
(oSet (xCall q90 [g68, g69]) p70 
(oSet (xMove g70) p63 
(oSet (xLook (lkExtract (nat_lit 0) g63)) p71 
(oSet (xLook (lkExtract (nat_lit 1) g63)) p72 
(oSet (xTurn (tnAlloc q91)) p14 
(oDo (xTurn (tnStore (nat_lit 32) g14 g71)) 
(oSet (xMove g72) p13 
oEnd))))))))))))) (kSeq (oSet (xMove g13) p73 
(oSet (xCall q60 [g73]) p74 
oEnd)) (oSet (xLook (lkFieldAddr (nat_lit 66) g8)) p75 
(oSet (xLook (lkLoad1 g75)) p76 
(oSet (xMove g11) p77 
(oSet (xLook (lkLoadN (nat_lit 32) g14)) p78 
(oSet (xLook (lkBuild q92 [((nat_lit 0), (nat_lit 1), g77), ((nat_lit 1), (nat_lit 32), g78)])) p79 
(oSet (xTurn (tnBuildSlice q92 [((nat_lit 0), (nat_lit 33), g79)] (nat_lit 1))) p80 
(oSet (xTurn (tnAppend (nat_lit 33) g76 g80)) p81 
(oSet (xLook (lkFieldAddr (nat_lit 66) g8)) p82 
(oDo (xTurn (tnStore (nat_lit 1) g82 g81)) 
oEnd))))))))))))))) (oSet (xLook (lkBin .add g51 q16)) p83 
(oSet (xMove g83) p51 
oEnd)))))))) (kSeq (kDraw 
(dLook (nat_lit 0) [] [] (lkMove g0) p85 
(dTurn (nat_lit 1) [] [] false (xNil g85) p86 
(dLook (nat_lit 2) [] [] (lkFieldAddr (nat_lit 1) g86) p87 
(dLook (nat_lit 3) [] [] (lkLoad1 g87) p88 
(dLook (nat_lit 4) [] [] (lkLoadN (nat_lit 67) g8) p89 
(dTurn (nat_lit 5) [] [] true (xCall q93 [g88, g89]) p90 
(dLook (nat_lit 6) [] [(nat_lit 5)] (lkMove g90) p84 
(dLook (nat_lit 7) [] [(nat_lit 5)] (lkExtract (nat_lit 0) g84) p91 
(dLook (nat_lit 8) [] [(nat_lit 5)] (lkExtract (nat_lit 1) g84) p92 
(dLook (nat_lit 9) [] [(nat_lit 5)] (lkMove g91) p15 
(dLook (nat_lit 10) [] [(nat_lit 5)] (lkMove g92) p9 (dEnd [(nat_lit 85), (nat_lit 86), (nat_lit 87), (nat_lit 88), (nat_lit 89), (nat_lit 90), (nat_lit 84), (nat_lit 91), (nat_lit 92), (nat_lit 15), (nat_lit 9)]))))))))))))) (kSeq (oSet (xMove g9) p93 
(oSet (xCall q60 [g93]) p94 
oEnd)) (oSet (xMove g0) p95 
(oSet (xMove g15) p96 
(oSet (xNil g95) p97 
(oSet (xLook (lkFieldAddr (nat_lit 1) g97)) p98 
(oDo (xTurn (tnStore (nat_lit 1) g98 g96)) 
oEnd))))))))))))))⟩
def q94 : OpdF := kC (.func (.func (nat_lit 34)) ⟨[]⟩ ⟨[]⟩)
noncomputable def k33 : KFun := ⟨[], (kSeq (oSet (xLook (lkLoad1 g0)) p5 
(oSet (xLook (lkLoad1 g1)) p6 
(oSet (xCall q56 [g5, g6]) p7 
(oSet (xTurn (tnAlloc q14)) p4 
(oDo (xTurn (tnStore (nat_lit 67) g4 g7)) 
oEnd))))) (kSeq (kSeq (oSet (xLook (lkLoad1 g2)) p8 
(oSet (xLook (lkBin .lss g8 q6)) p9 
(oSet (xMove g9) p10 
(oSetIf (wantF g10) (xLook (lkLoad1 g2)) p11 
(oSetIf (wantF g10) (xLook (lkFieldAddr (nat_lit 65) g4)) p12 
(oSetIf (wantF g10) (xLook (lkLoad1 g12)) p13 
(oSetIf (wantF g10) (xLook (lkBin .gtr g11 g13)) p14 
(oSet (xLook (lkPick g10 q2 g14)) p15 
oEnd)))))))) (kCond g15 (oSet (xCall q60 [q77]) p16 
oEnd) kSkip)) (kDraw 
(dLook (nat_lit 0) [] [] (lkLoad1 g0) p17 
(dTurn (nat_lit 1) [] [] false (xNil g17) p18 
(dLook (nat_lit 2) [] [] (lkFieldAddr (nat_lit 0) g18) p19 
(dLook (nat_lit 3) [] [] (lkLoadN (nat_lit 1) g19) p20 
(dLook (nat_lit 4) [] [] (lkLoadN (nat_lit 67) g4) p21 
(dLook (nat_lit 5) [] [] (lkLoad1 g2) p22 
(dTurn (nat_lit 6) [] [] true (xCall q94 [g20, g21, g22]) p23 
(dTurn (nat_lit 7) [] [(nat_lit 6)] true (xTurn (tnStore (nat_lit 1) g3 g23)) noDst (dEnd [(nat_lit 17), (nat_lit 18), (nat_lit 19), (nat_lit 20), (nat_lit 21), (nat_lit 22), (nat_lit 23)]))))))))))))⟩
def q95 : OpdF := kC (.func (.func (nat_lit 83)) ⟨[]⟩ ⟨[]⟩)
def q96 : OpdF := kC (.func (.func (nat_lit 84)) ⟨[]⟩ ⟨[]⟩)
def q97 : OpdF := kC (.func (.func (nat_lit 85)) ⟨[]⟩ ⟨[]⟩)
noncomputable def k34 : KFun := ⟨[rTmp (nat_lit 6) g6], (kSeq (oSet (xTurn (tnBox g0)) p3 
(oSet (xTurn (tnBox g1)) p4 
(oSet (xMove q18) p6 
oEnd))) (kSeq (oSet (xMove q18) p7 
oEnd) (kSeq (oSet (xLook (lkFieldAddr (nat_lit 66) g4)) p14 
(oSet (xLook (lkLoad1 g14)) p15 
(oSet (xMove g2) p16 
(oSet (xCall q95 [g15, g16]) p17 
(oSet (xMove g17) p13 
(oSet (xLook (lkExtract (nat_lit 0) g13)) p18 
(oSet (xLook (lkExtract (nat_lit 1) g13)) p19 
(oSet (xTurn (tnAlloc q92)) p8 
(oDo (xTurn (tnStore (nat_lit 33) g8 g18)) 
(oSet (xMove g19) p9 
oEnd)))))))))) (kSeq (kSeq (oSet (xMove g9) p20 
oEnd) (kCond g20 (kSeq (oSet (xLook (lkFieldAddr (nat_lit 0) g3)) p22 
(oSet (xLook (lkLoad1 g22)) p23 
(oSet (xLook (lkFieldAddr (nat_lit 1) g8)) p24 
(oSet (xLook (lkLoadN (nat_lit 32) g24)) p25 
(oSet (xCall q96 [g23, g25]) p26 
(oSet (xMove g26) p21 
(oSet (xLook (lkExtract (nat_lit 0) g21)) p27 
(oSet (xLook (lkExtract (nat_lit 1) g21)) p28 
(oSet (xMove g27) p10 
(oSet (xMove g28) p11 
oEnd)))))))))) (kSeq (oSet (xMove g11) p29 
(oSet (xCall q60 [g29]) p30 
oEnd)) (oSet (xMove g10) p31 
(oSet (xMove g31) p7 
oEnd)))) kSkip)) (kSeq (oSet (xLook (lkFieldAddr (nat_lit 0) g3)) p33 
(oSet (xLook (lkLoad1 g33)) p34 
(oSet (xLook (lkFieldAddr (nat_lit 33) g4)) p35 
(oSet (xLook (lkLoadN (nat_lit 32) g35)) p36 
(oSet (xMove g7) p37 
(oSet (xLook (lkFieldAddr (nat_lit 0) g8)) p38 
(oSet (xLook (lkLoad1 g38)) p39 
(oSet (xMove g2) p40 
(oSet (xCall q97 [g34, g36, g37, g39, g40]) p41 
(oSet (xMove g41) p32 
(oSet (xLook (lkExtract (nat_lit 0) g32)) p42 
(oSet (xLook (lkExtract (nat_lit 1) g32)) p43 
(oSet (xMove g42) p7 
(oSet (xMove g43) p12 
oEnd)))))))))))))) (kSeq (oSet (xMove g12) p44 
(oSet (xCall q60 [g44]) p45 
oEnd)) (kSeq (oSet (xMove g7) p46 
(oSet (xMove g46) p6 
oEnd)) kRet)))))))⟩
def q100 : OpdF := kC (.func (.func (nat_lit 86)) ⟨[]⟩ ⟨[]⟩)
def q108 : OpdF := kC (.func (.func (nat_lit 93)) ⟨[]⟩ ⟨[]⟩)
def q109 : OpdF := kC (.func (.func (nat_lit 94)) ⟨[]⟩ ⟨[]⟩)
def q110 : OpdF := kC (.func (.func (nat_lit 95)) ⟨[]⟩ ⟨[]⟩)
noncomputable def k39 : KFun := ⟨[rCellN (nat_lit 4) g4 (nat_lit 67), rTmp (nat_lit 5) g5], (kSeq (oSet (xTurn (tnAlloc q14)) p4 
(oSet (xMove q0) p5 
oEnd)) (kSeq (kSeq (oSet (xMove g0) p11 
(oSet (xCall q108 [g11]) p12 
(oSet (xMove g12) p10 
(oSet (xLook (lkExtract (nat_lit 0) g10)) p13 
(oSet (xLook (lkExtract (nat_lit 1) g10)) p14 
(oSet (xMove g13) p6 
(oSet (xMove g14) p7 
oEnd))))))) (kSeq (oSet (xMove g6) p15 
(oSet (xLook (lkEq true .int g15 q6)) p16 
oEnd)) (kCond g16 (kSeq (oSet (xLook (lkBuild q14 [])) p17 
(oDo (xTurn (tnStore (nat_lit 67) g4 g17)) 
(oSet (xMove q0) p5 
oEnd))) kRet) kSkip))) (kSeq (oSet (xMove g0) p19 
(oSet (xMove g1) p20 
(oSet (xCall q109 [g19, g20]) p21 
(oSet (xMove g21) p18 
(oSet (xLook (lkExtract (nat_lit 0) g18)) p22 
(oSet (xLook (lkExtract (nat_lit 1) g18)) p23 
(oSet (xMove g22) p8 
(oSet (xMove g23) p9 
oEnd)))))))) (kSeq (kSeq (oSet (xMove g9) p24 
(oSet (xLook (lkUn .not g24)) p25 
oEnd)) (kCond g25 (kSeq (oSet (xLook (lkBuild q14 [])) p26 
(oDo (xTurn (tnStore (nat_lit 67) g4 g26)) 
(oSet (xMove q0) p5 
oEnd))) kRet) kSkip)) (kSeq (oSet (xMove g0) p27 
(oSet (xMove g8) p28 
(oSet (xLook (lkIxSl (nat_lit 67) g27 g28)) p29 
(oSet (xLook (lkLoadN (nat_lit 67) g29)) p30 
(oSet (xCall q110 [g30]) p31 
(oDo (xTurn (tnStore (nat_lit 67) g4 g31)) 
(oSet (xMove q2) p5 
oEnd))))))) kRet)))))⟩
def q111 : OpdF := kC (.string ⟨⟨[]⟩⟩)
def q112 : OpdF := kC (.int .i64 (.ofNat (nat_lit 20)))
def q113 : OpdF := kC (.func (.func (nat_lit 96)) ⟨[]⟩ ⟨[]⟩)
def q114 : OpdF := kC (.string ⟨⟨[97, 98, 99, 100, 101, 102, 103, 104, 105, 106, 107, 108, 109, 110, 111, 112, 113, 114, 115, 116, 117, 118, 119, 120, 121, 122, 48, 49, 50, 51, 52, 53, 54, 55, 56, 57, 46, 45, 95]⟩⟩)
noncomputable def k40 : KFun := ⟨[rTmp (nat_lit 2) g2], (kSeq (oSet (xMove q0) p2 
oEnd) (kSeq (oSet (xMove g0) p3 
(oSet (xLook (lkEq true .str g3 q111)) p4 
(oSet (xMove g4) p5 
(oSetIf (wantT g5) (xMove g0) p6 
(oSetIf (wantT g5) (xLook (lkLen .str g6)) p7 
(oSetIf (wantT g5) (xLook (lkBin .leq g7 q112)) p8 
(oSet (xLook (lkPick g5 g8 q0)) p9 
(oSet (xMove g9) p10 
(oSetIf (wantT g10) (xMove g0) p11 
(oSetIf (wantT g10) (xCall q113 [g11, q114]) p12 
(oSetIf (wantT g10) (xLook (lkEq false .str g12 q111)) p13 
(oSet (xLook (lkPick g10 g13 q0)) p14 
(oSet (xMove g14) p2 
oEnd))))))))))))) kRet))⟩
noncomputable def k41 : KFun := ⟨[], (oSet (xLook (lkLoad1 g0)) p2 
(oSet (xLook (lkLoad1 g1)) p3 
(oSet (xCall q62 [g2, g3, q18, q18]) p4 
oEnd)))⟩
def q115 : OpdF := kC (.func (.func (nat_lit 44)) ⟨[]⟩ ⟨[]⟩)
noncomputable def k42 : KFun := ⟨[], (kSeq (kDraw 
(dLook (nat_lit 0) [] [] (lkLoad1 g0) p6 
(dTurn (nat_lit 1) [] [] false (xNil g6) p7 
(dLook (nat_lit 2) [] [] (lkFieldAddr (nat_lit 0) g7) p8 
(dLook (nat_lit 3) [] [] (lkLoadN (nat_lit 1) g8) p9 
(dLook (nat_lit 4) [] [] (lkLoad1 g0) p10 
(dLook (nat_lit 5) [] [] (lkLoad1 g1) p11 
(dTurn (nat_lit 6) [(nat_lit 0), (nat_lit 3)] [] true (xCall q56 [g10, g11]) p12 
(dTurn (nat_lit 7) [] [(nat_lit 6)] true (xCall q57 [g9, g12]) p13 
(dLook (nat_lit 8) [] [(nat_lit 6), (nat_lit 7)] (lkMove g13) p3 (dEnd [(nat_lit 6), (nat_lit 7), (nat_lit 8), (nat_lit 9), (nat_lit 10), (nat_lit 11), (nat_lit 12), (nat_lit 13), (nat_lit 3)]))))))))))) (kSeq (oSet (xLook (lkLoad1 g2)) p14 
(oSet (xCall q76 [g14]) p15 
(oSet (xCall q60 [g15]) p16 
oEnd))) (kSeq (kSeq (oSet (xMove g3) p17 
(oSet (xLook (lkLen .sl g17)) p18 
(oSet (xLook (lkLoad1 g2)) p19 
(oSet (xLook (lkLen .sl g19)) p20 
(oSet (xLook (lkBin .add g18 g20)) p21 
(oSet (xLook (lkBin .gtr g21 q82)) p22 
oEnd)))))) (kCond g22 (oSet (xCall q60 [q83]) p23 
oEnd) kSkip)) (kSeq (oSet (xMove g3) p24 
(oSet (xLook (lkLoad1 g2)) p25 
(oSet (xTurn (tnAppend (nat_lit 1) g24 g25)) p26 
(oSet (xMove g26) p3 
oEnd)))) (kSeq (oSet (xMove g3) p28 
(oSet (xCall q115 [g28]) p29 
(oSet (xMove g29) p27 
(oSet (xLook (lkExtract (nat_lit 0) g27)) p30 
(oSet (xLook (lkExtract (nat_lit 1) g27)) p31 
(oSet (xMove g30) p4 
(oSet (xMove g31) p5 
oEnd))))))) (kSeq (oSet (xMove g5) p32 
(oSet (xCall q60 [g32]) p33 
oEnd)) (oSet (xLook (lkLoad1 g0)) p34 
(oSet (xLook (lkLoad1 g1)) p35 
(oSet (xMove g3) p36 
(oSet (xMove g4) p37 
(oSet (xCall q62 [g34, g35, g36, g37]) p38 
oEnd)))))))))))⟩
noncomputable def k43 : KFun := ⟨[rTmp (nat_lit 2) g2], (kSeq (oSet (xMove q6) p2 
oEnd) (kSeq (kSeq (oSet (xMove g0) p7 
(oSet (xLook (lkLen .sl g7)) p8 
(oSet (xLook (lkBin .gtr g8 q82)) p9 
oEnd))) (kCond g9 (kSeq (oSet (xMove q83) p2 
oEnd) kRet) kSkip)) (kSeq (kSeq (oSet (xMove g0) p10 
(oSet (xLook (lkLen .sl g10)) p11 
(oSet (xMove q6) p12 
oEnd))) (kBlock (nat_lit 0) (kLoop (kSeq (oSet (xLook (lkBin .lss g12 g11)) p13 
oEnd) (kSeq (kCond g13 kSkip (kExit (nat_lit 0))) (kSeq (kBlock (nat_lit 1) (kSeq (oSet (xLook (lkIxSl (nat_lit 1) g10 g12)) p14 
(oSet (xLook (lkLoad1 g14)) p15 
(oSet (xMove g15) p4 
oEnd))) (kSeq (oSet (xMove g4) p17 
(oSet (xCall q81 [g17]) p18 
(oSet (xMove g18) p16 
(oSet (xLook (lkExtract (nat_lit 0) g16)) p19 
(oSet (xLook (lkExtract (nat_lit 1) g16)) p20 
(oSet (xMove g19) p5 
(oSet (xMove g20) p6 
oEnd))))))) (kSeq (oSet (xMove g5) p21 
(oSet (xLook (lkEq true .int g21 q6)) p22 
oEnd)) (kCond g22 (kSeq (oSet (xMove g5) p23 
(oSet (xMove g23) p2 
oEnd)) kRet) kSkip))))) (oSet (xLook (lkBin .add g12 q16)) p24 
(oSet (xMove g24) p12 
oEnd)))))))) (kSeq (oSet (xMove q6) p2 
oEnd) kRet))))⟩
def q116 : OpdF := kC (.func (.func (nat_lit 97)) ⟨[]⟩ ⟨[]⟩)
noncomputable def k44 : KFun := ⟨[rTmp (nat_lit 2) g2, rTmp (nat_lit 3) g3], (kSeq (oSet (xMove q18) p2 
(oSet (xMove q6) p3 
oEnd)) (kSeq (oSet (xMove g0) p8 
(oSet (xCall q116 [q18, g8]) p9 
(oSet (xMove g9) p7 
(oSet (xLook (lkExtract (nat_lit 0) g7)) p10 
(oSet (xLook (lkExtract (nat_lit 1) g7)) p11 
(oSet (xLook (lkExtract (nat_lit 2) g7)) p12 
(oSet (xMove g10) p4 
(oSet (xMove g11) p5 
(oSet (xMove g12) p6 
oEnd))))))))) (kSeq (oSet (xMove g4) p13 
(oSet (xMove g6) p14 
(oSet (xMove g13) p2 
(oSet (xMove g14) p3 
oEnd)))) kRet)))⟩
def q117 : OpdF := kC (.func (.func (nat_lit 99)) ⟨[]⟩ ⟨[]⟩)
def q120 : OpdF := kC (.func (.func (nat_lit 50)) ⟨[]⟩ ⟨[]⟩)
def q122 : OpdF := kC (.func (.func (nat_lit 100)) ⟨[]⟩ ⟨[]⟩)
def q123 : OpdF := kC (.func (.func (nat_lit 101)) ⟨[]⟩ ⟨[]⟩)
def q124 : OpdF := kC (.func (.func (nat_lit 102)) ⟨[]⟩ ⟨[]⟩)
def q125 : OpdF := kC (.func (.func (nat_lit 103)) ⟨[]⟩ ⟨[]⟩)
def q126 : OpdF := kC (.func (.func (nat_lit 104)) ⟨[]⟩ ⟨[]⟩)
def q127 : OpdF := kC (.func (.func (nat_lit 105)) ⟨[]⟩ ⟨[]⟩)
def q128 : OpdF := kC (.int .i64 (.ofNat (nat_lit 65536)))
def q129 : OpdF := kC (.func (.func (nat_lit 106)) ⟨[]⟩ ⟨[]⟩)
noncomputable def k50d0 : KD := 
(dLook (nat_lit 8) [] [(nat_lit 6)] (lkPick g34 q2 g40) p41 (dEnd [(nat_lit 33), (nat_lit 34), (nat_lit 35), (nat_lit 36), (nat_lit 37), (nat_lit 38), (nat_lit 39), (nat_lit 40), (nat_lit 41)]))
def q130 : OpdF := kC (.func (.func (nat_lit 107)) ⟨[]⟩ ⟨[]⟩)
noncomputable def k50d1 : KD := 
(dIf [(nat_lit 6)] (wantF g34) p40 (dLook (nat_lit 7) [] [(nat_lit 6)] (lkBin .geq g39 q6) p40 k50d0) k50d0)
noncomputable def k50d2 : KD := 
(dIf [] (wantF g34) p39 (dTurn (nat_lit 6) [] [] true (xCall q130 [g37, g38]) p39 k50d1) k50d1)
noncomputable def k50d3 : KD := 
(dIf [] (wantF g34) p38 (dLook (nat_lit 5) [] [] (lkLoadN (nat_lit 32) g7) p38 k50d2) k50d2)
noncomputable def k50d4 : KD := 
(dIf [] (wantF g34) p37 (dLook (nat_lit 4) [] [] (lkFieldAddr (nat_lit 0) g36) p37 k50d3) k50d3)
noncomputable def k50d5 : KD := 
(dIf [] (wantF g34) p36 (dTurn (nat_lit 3) [] [] false (xNil g35) p36 k50d4) k50d4)
def q131 : OpdF := kC (.func (.func (nat_lit 109)) ⟨[]⟩ ⟨[]⟩)
def q132 : OpdF := kC (.func (.func (nat_lit 108)) ⟨[]⟩ ⟨[]⟩)
def q133 : OpdF := kC (.int .i64 (.ofNat (nat_lit 1500)))
noncomputable def k50d6 : KD := 
(dLook (nat_lit 16) [] [] (lkPick g59 q2 g72) p73 (dEnd [(nat_lit 57), (nat_lit 58), (nat_lit 59), (nat_lit 60), (nat_lit 61), (nat_lit 62), (nat_lit 63), (nat_lit 64), (nat_lit 65), (nat_lit 66), (nat_lit 67), (nat_lit 68), (nat_lit 69), (nat_lit 70), (nat_lit 71), (nat_lit 72), (nat_lit 73)]))
noncomputable def k50d7 : KD := 
(dIf [] (wantF g59) p72 (dLook (nat_lit 15) [] [] (lkBin .geq g71 q133) p72 k50d6) k50d6)
noncomputable def k50d8 : KD := 
(dIf [] (wantF g59) p71 (dLook (nat_lit 14) [] [] (lkBin .add g64 g70) p71 k50d7) k50d7)
noncomputable def k50d9 : KD := 
(dIf [] (wantF g59) p70 (dLook (nat_lit 13) [] [] (lkLen .sl g69) p70 k50d8) k50d8)
noncomputable def k50d10 : KD := 
(dIf [] (wantF g59) p69 (dLook (nat_lit 12) [] [] (lkLoad1 g68) p69 k50d9) k50d9)
noncomputable def k50d11 : KD := 
(dIf [] (wantF g59) p68 (dLook (nat_lit 11) [] [] (lkFieldAddr (nat_lit 0) g67) p68 k50d10) k50d10)
noncomputable def k50d12 : KD := 
(dIf [] (wantF g59) p67 (dLook (nat_lit 10) [] [] (lkFieldAddr (nat_lit 0) g66) p67 k50d11) k50d11)
noncomputable def k50d13 : KD := 
(dIf [] (wantF g59) p66 (dTurn (nat_lit 9) [] [] false (xNil g65) p66 k50d12) k50d12)
noncomputable def k50d14 : KD := 
(dIf [] (wantF g59) p65 (dLook (nat_lit 8) [] [] (lkMove g0) p65 k50d13) k50d13)
noncomputable def k50d15 : KD := 
(dIf [] (wantF g59) p64 (dLook (nat_lit 7) [] [] (lkLen .map g63) p64 k50d14) k50d14)
noncomputable def k50d16 : KD := 
(dIf [] (wantF g59) p63 (dLook (nat_lit 6) [] [] (lkLoad1 g62) p63 k50d15) k50d15)
noncomputable def k50d17 : KD := 
(dIf [] (wantF g59) p62 (dLook (nat_lit 5) [] [] (lkFieldAddr (nat_lit 38) g61) p62 k50d16) k50d16)
noncomputable def k50d18 : KD := 
(dIf [] (wantF g59) p61 (dTurn (nat_lit 4) [] [] false (xNil g60) p61 k50d17) k50d17)
def q134 : List Value := [(.int .i64 (.ofNat (nat_lit 0))), (.int .i64 (.ofNat (nat_lit 0))), (.int .u8 (.ofNat (nat_lit 0))), (.int .u8 (.ofNat (nat_lit 0))), (.int .u8 (.ofNat (nat_lit 0))), (.int .u8 (.ofNat (nat_lit 0))), (.int .u8 (.ofNat (nat_lit 0))), (.int .u8 (.ofNat (nat_lit 0))), (.int .u8 (.ofNat (nat_lit 0))), (.int .u8 (.ofNat (nat_lit 0))), (.int .u8 (.ofNat (nat_lit 0))), (.int .u8 (.ofNat (nat_lit 0))), (.int .u8 (.ofNat (nat_lit 0))), (.int .u8 (.ofNat (nat_lit 0))), (.int .u8 (.ofNat (nat_lit 0))), (.int .u8 (.ofNat (nat_lit 0))), (.int .u8 (.ofNat (nat_lit 0))), (.int .u8 (.ofNat (nat_lit 0))), (.int .u8 (.ofNat (nat_lit 0))), (.int .u8 (.ofNat (nat_lit 0))), (.int .u8 (.ofNat (nat_lit 0))), (.int .u8 (.ofNat (nat_lit 0))), (.int .u8 (.ofNat (nat_lit 0))), (.int .u8 (.ofNat (nat_lit 0))), (.int .u8 (.ofNat (nat_lit 0))), (.int .u8 (.ofNat (nat_lit 0))), (.int .u8 (.ofNat (nat_lit 0))), (.int .u8 (.ofNat (nat_lit 0))), (.int .u8 (.ofNat (nat_lit 0))), (.int .u8 (.ofNat (nat_lit 0))), (.int .u8 (.ofNat (nat_lit 0))), (.int .u8 (.ofNat (nat_lit 0))), (.int .u8 (.ofNat (nat_lit 0))), (.int .u8 (.ofNat (nat_lit 0))), (.slice none (nat_lit 0) (nat_lit 0))]
def q135 : OpdF := kC (.func (.func (nat_lit 110)) ⟨[]⟩ ⟨[]⟩)
noncomputable def k50 : KFun := ⟨[rCellN (nat_lit 4) g4 (nat_lit 32), rTmp (nat_lit 5) g5], (kSeq (oSet (xTurn (tnAlloc q91)) p4 
(oSet (xMove q6) p5 
oEnd)) (kSeq (kSeq (oSet (xMove g0) p12 
(oSet (xCall q127 [g12]) p13 
(oSet (xMove g13) p6 
oEnd))) (kSeq (oSet (xMove g6) p14 
(oSet (xLook (lkEq true .int g14 q6)) p15 
oEnd)) (kCond g15 (kSeq (oSet (xLook (lkBuild q91 [])) p16 
(oSet (xMove g6) p17 
(oDo (xTurn (tnStore (nat_lit 32) g4 g16)) 
(oSet (xMove g17) p5 
oEnd)))) kRet) kSkip))) (kSeq (kSeq (oSet (xMove g1) p18 
(oSet (xLook (lkLen .sl g18)) p19 
(oSet (xLook (lkBin .gtr g19 q128)) p20 
oEnd))) (kCond g20 (kSeq (oSet (xLook (lkBuild q91 [])) p21 
(oDo (xTurn (tnStore (nat_lit 32) g4 g21)) 
(oSet (xMove q83) p5 
oEnd))) kRet) kSkip)) (kSeq (oSet (xMove g1) p22 
(oSet (xCall q129 [g22]) p23 
(oSet (xTurn (tnAlloc q91)) p7 
(oDo (xTurn (tnStore (nat_lit 32) g7 g23)) 
oEnd)))) (kSeq (kSeq (kDraw 
(dLook (nat_lit 0) [] [] (lkMove g0) p25 
(dTurn (nat_lit 1) [] [] false (xNil g25) p26 
(dLook (nat_lit 2) [] [] (lkFieldAddr (nat_lit 38) g26) p27 
(dLook (nat_lit 3) [] [] (lkLoad1 g27) p28 
(dLook (nat_lit 4) [] [] (lkLoadN (nat_lit 32) g7) p29 
(dLook (nat_lit 5) [] [] (lkLookup (.many (nat_lit 32) .u8) (.agg ⟨[(.int .i64 (.ofNat (nat_lit 0))), (.int .i64 (.ofNat (nat_lit 0)))]⟩) true g28 g29) p30 
(dLook (nat_lit 6) [] [] (lkMove g30) p24 
(dLook (nat_lit 7) [] [] (lkExtract (nat_lit 0) g24) p31 
(dLook (nat_lit 8) [] [] (lkExtract (nat_lit 1) g24) p32 
(dTurn (nat_lit 9) [] [] false (xTurn (tnAlloc q66)) p8 
(dTurn (nat_lit 10) [] [] true (xTurn (tnStore (nat_lit 2) g8 g31)) noDst 
(dLook (nat_lit 11) [] [(nat_lit 10)] (lkMove g32) p9 (dEnd [(nat_lit 25), (nat_lit 26), (nat_lit 27), (nat_lit 28), (nat_lit 29), (nat_lit 30), (nat_lit 24), (nat_lit 31), (nat_lit 32), (nat_lit 8), (nat_lit 9)])))))))))))))) (kSeq (kDraw 
(dLook (nat_lit 0) [] [] (lkMove g9) p33 
(dLook (nat_lit 1) [] [] (lkMove g33) p34 
(dIf [] (wantF g34) p35 (dLook (nat_lit 2) [] [] (lkMove g0) p35 k50d5) k50d5)))) (kCond g41 (kSeq (kDraw 
(dLook (nat_lit 0) [] [] (lkMove g0) p42 
(dTurn (nat_lit 1) [] [] false (xNil g42) p43 
(dLook (nat_lit 2) [] [] (lkFieldAddr (nat_lit 0) g43) p44 
(dLook (nat_lit 3) [] [] (lkFieldAddr (nat_lit 1) g44) p45 
(dLook (nat_lit 4) [] [] (lkLoad1 g45) p46 
(dLook (nat_lit 5) [] [] (lkLoadN (nat_lit 32) g7) p47 
(dTurn (nat_lit 6) [] [] true (xTurn (tnDelete (.many (nat_lit 32) .u8) g46 g47)) noDst (dEnd [(nat_lit 42), (nat_lit 43), (nat_lit 44), (nat_lit 45), (nat_lit 46), (nat_lit 47)]))))))))) (kSeq (oSet (xLook (lkLoadN (nat_lit 32) g7)) p48 
(oDo (xTurn (tnStore (nat_lit 32) g4 g48)) 
(oSet (xMove q6) p5 
oEnd))) kRet)) kSkip))) (kSeq (oSet (xMove g0) p50 
(oSet (xMove g1) p51 
(oSet (xLook (lkLen .sl g51)) p52 
(oSet (xCall q131 [g52]) p53 
(oSet (xCall q132 [g50, g53]) p54 
(oSet (xMove g54) p49 
(oSet (xLook (lkExtract (nat_lit 0) g49)) p55 
(oSet (xLook (lkExtract (nat_lit 1) g49)) p56 
(oSet (xMove g55) p10 
(oSet (xMove g56) p11 
oEnd)))))))))) (kSeq (kSeq (kDraw 
(dLook (nat_lit 0) [] [] (lkMove g11) p57 
(dLook (nat_lit 1) [] [] (lkEq true .int g57 q6) p58 
(dLook (nat_lit 2) [] [] (lkMove g58) p59 
(dIf [] (wantF g59) p60 (dLook (nat_lit 3) [] [] (lkMove g0) p60 k50d18) k50d18))))) (kCond g73 (kSeq (oSet (xLook (lkBuild q91 [])) p74 
(oDo (xTurn (tnStore (nat_lit 32) g4 g74)) 
(oSet (xMove q38) p5 
oEnd))) kRet) kSkip)) (kSeq (kDraw 
(dLook (nat_lit 0) [] [] (lkMove g0) p75 
(dLook (nat_lit 1) [] [] (lkMove g0) p76 
(dTurn (nat_lit 2) [] [] false (xNil g76) p77 
(dLook (nat_lit 3) [] [] (lkFieldAddr (nat_lit 0) g77) p78 
(dLook (nat_lit 4) [] [] (lkFieldAddr (nat_lit 0) g78) p79 
(dLook (nat_lit 5) [] [] (lkLoad1 g79) p80 
(dLook (nat_lit 6) [] [] (lkMove g10) p81 
(dLook (nat_lit 7) [] [] (lkMove g1) p82 
(dLook (nat_lit 8) [] [] (lkLen .sl g82) p83 
(dLook (nat_lit 9) [] [] (lkBuild q66 [((nat_lit 0), (nat_lit 1), g81), ((nat_lit 1), (nat_lit 1), g83)]) p84 
(dLook (nat_lit 10) [] [] (lkLoadN (nat_lit 32) g7) p85 
(dLook (nat_lit 11) [] [] (lkMove g1) p86 
(dTurn (nat_lit 12) [(nat_lit 5), (nat_lit 8), (nat_lit 10)] [] true (xCall q135 [g86]) p87 
(dLook (nat_lit 13) [] [(nat_lit 12)] (lkBuild q134 [((nat_lit 0), (nat_lit 2), g84), ((nat_lit 2), (nat_lit 32), g85), ((nat_lit 34), (nat_lit 1), g87)]) p88 
(dTurn (nat_lit 14) [] [(nat_lit 12)] false (xTurn (tnBuildSlice q134 [((nat_lit 0), (nat_lit 35), g88)] (nat_lit 1))) p89 
(dTurn (nat_lit 15) [] [(nat_lit 12)] true (xTurn (tnAppend (nat_lit 35) g80 g89)) p90 
(dTurn (nat_lit 16) [] [(nat_lit 12), (nat_lit 15)] false (xNil g75) p91 
(dLook (nat_lit 17) [] [(nat_lit 12), (nat_lit 15)] (lkFieldAddr (nat_lit 0) g91) p92 
(dLook (nat_lit 18) [] [(nat_lit 12), (nat_lit 15)] (lkFieldAddr (nat_lit 0) g92) p93 
(dTurn (nat_lit 19) [] [(nat_lit 12), (nat_lit 15)] true (xTurn (tnStore (nat_lit 1) g93 g90)) noDst (dEnd [(nat_lit 75), (nat_lit 76), (nat_lit 77), (nat_lit 78), (nat_lit 79), (nat_lit 80), (nat_lit 81), (nat_lit 82), (nat_lit 83), (nat_lit 84), (nat_lit 85), (nat_lit 86), (nat_lit 87), (nat_lit 88), (nat_lit 89), (nat_lit 90), (nat_lit 91), (nat_lit 92), (nat_lit 93)])))))))))))))))))))))) (kSeq (oSet (xLook (lkLoadN (nat_lit 32) g7)) p94 
(oDo (xTurn (tnStore (nat_lit 32) g4 g94)) 
(oSet (xMove q6) p5 
oEnd))) kRet)))))))))⟩
def q136 : OpdF := kC (.func (.func (nat_lit 111)) ⟨[]⟩ ⟨[]⟩)
def q138 : List Value := [(.int .i64 (.ofNat (nat_lit 0))), (.int .u8 (.ofNat (nat_lit 0))), (.int .u8 (.ofNat (nat_lit 0))), (.int .u8 (.ofNat (nat_lit 0))), (.int .u8 (.ofNat (nat_lit 0))), (.int .u8 (.ofNat (nat_lit 0))), (.int .u8 (.ofNat (nat_lit 0))), (.int .u8 (.ofNat (nat_lit 0))), (.int .u8 (.ofNat (nat_lit 0))), (.int .u8 (.ofNat (nat_lit 0))), (.int .u8 (.ofNat (nat_lit 0))), (.int .u8 (.ofNat (nat_lit 0))), (.int .u8 (.ofNat (nat_lit 0))), (.int .u8 (.ofNat (nat_lit 0))), (.int .u8 (.ofNat (nat_lit 0))), (.int .u8 (.ofNat (nat_lit 0))), (.int .u8 (.ofNat (nat_lit 0))), (.int .u8 (.ofNat (nat_lit 0))), (.int .u8 (.ofNat (nat_lit 0))), (.int .u8 (.ofNat (nat_lit 0))), (.int .u8 (.ofNat (nat_lit 0))), (.int .u8 (.ofNat (nat_lit 0))), (.int .u8 (.ofNat (nat_lit 0))), (.int .u8 (.ofNat (nat_lit 0))), (.int .u8 (.ofNat (nat_lit 0))), (.int .u8 (.ofNat (nat_lit 0))), (.int .u8 (.ofNat (nat_lit 0))), (.int .u8 (.ofNat (nat_lit 0))), (.int .u8 (.ofNat (nat_lit 0))), (.int .u8 (.ofNat (nat_lit 0))), (.int .u8 (.ofNat (nat_lit 0))), (.int .u8 (.ofNat (nat_lit 0))), (.int .u8 (.ofNat (nat_lit 0))), (.int .i64 (.ofNat (nat_lit 0))), (.int .i64 (.ofNat (nat_lit 0)))]
def q140 : OpdF := kC (.int .i64 (.ofNat (nat_lit 10)))
def q142 : OpdF := kC (.func (.func (nat_lit 115)) ⟨[]⟩ ⟨[]⟩)
def q143 : OpdF := kC (.func (.func (nat_lit 116)) ⟨[]⟩ ⟨[]⟩)
def q144 : OpdF := kC (.func (.func (nat_lit 117)) ⟨[]⟩ ⟨[]⟩)
def q145 : OpdF := kC (.func (.func (nat_lit 118)) ⟨[]⟩ ⟨[]⟩)
noncomputable def k53 : KFun := ⟨[rTmp (nat_lit 2) g2], (kSeq (oSet (xMove q6) p2 
oEnd) (kSeq (oSet (xMove g0) p8 
(oSet (xNil g8) p9 
(oSet (xLook (lkFieldAddr (nat_lit 1) g9)) p10 
(oDo (xTurn (tnStore (nat_lit 1) g10 q18)) 
oEnd)))) (kSeq (oSet (xMove g0) p11 
(oSet (xNil g11) p12 
(oSet (xLook (lkFieldAddr (nat_lit 0) g12)) p13 
(oSet (xLook (lkFieldAddr (nat_lit 0) g13)) p14 
(oSet (xLook (lkLoad1 g14)) p15 
(oSet (xCall q143 [g15]) p16 
(oSet (xTurn (tnAlloc q91)) p3 
(oDo (xTurn (tnStore (nat_lit 32) g3 g16)) 
oEnd)))))))) (kSeq (kSeq (oSet (xLook (lkLoadN (nat_lit 32) g3)) p17 
(oSet (xLook (lkBuild q91 [])) p18 
(oSet (xLook (lkEq false (.flat [(.int .u8), (.int .u8), (.int .u8), (.int .u8), (.int .u8), (.int .u8), (.int .u8), (.int .u8), (.int .u8), (.int .u8), (.int .u8), (.int .u8), (.int .u8), (.int .u8), (.int .u8), (.int .u8), (.int .u8), (.int .u8), (.int .u8), (.int .u8), (.int .u8), (.int .u8), (.int .u8), (.int .u8), (.int .u8), (.int .u8), (.int .u8), (.int .u8), (.int .u8), (.int .u8), (.int .u8), (.int .u8)]) g17 g18)) p19 
oEnd))) (kCond g19 (kSeq (oSet (xMove q6) p2 
oEnd) kRet) kSkip)) (kSeq (kDraw 
(dLook (nat_lit 0) [] [] (lkMove g0) p21 
(dTurn (nat_lit 1) [] [] false (xNil g21) p22 
(dLook (nat_lit 2) [] [] (lkFieldAddr (nat_lit 0) g22) p23 
(dLook (nat_lit 3) [] [] (lkFieldAddr (nat_lit 0) g23) p24 
(dLook (nat_lit 4) [] [] (lkLoad1 g24) p25 
(dLook (nat_lit 5) [] [] (lkLoadN (nat_lit 32) g3) p26 
(dTurn (nat_lit 6) [] [] true (xCall q144 [g25, g26]) p27 
(dLook (nat_lit 7) [] [(nat_lit 6)] (lkMove g27) p20 
(dLook (nat_lit 8) [] [(nat_lit 6)] (lkExtract (nat_lit 0) g20) p28 
(dLook (nat_lit 9) [] [(nat_lit 6)] (lkExtract (nat_lit 1) g20) p29 
(dLook (nat_lit 10) [] [(nat_lit 6)] (lkMove g28) p4 
(dLook (nat_lit 11) [] [(nat_lit 6)] (lkMove g29) p5 (dEnd [(nat_lit 21), (nat_lit 22), (nat_lit 23), (nat_lit 24), (nat_lit 25), (nat_lit 26), (nat_lit 27), (nat_lit 20), (nat_lit 28), (nat_lit 29), (nat_lit 4), (nat_lit 5)])))))))))))))) (kSeq (kSeq (oSet (xMove g5) p30 
(oSet (xLook (lkEq true .int g30 q6)) p31 
oEnd)) (kCond g31 (kSeq (oSet (xMove g5) p32 
(oSet (xMove g32) p2 
oEnd)) kRet) kSkip)) (kSeq (oSet (xMove g4) p34 
(oSet (xCall q145 [g34]) p35 
(oSet (xMove g35) p33 
(oSet (xLook (lkExtract (nat_lit 0) g33)) p36 
(oSet (xLook (lkExtract (nat_lit 1) g33)) p37 
(oSet (xTurn (tnAlloc q66)) p7 
(oSet (xMove g36) p6 
(oDo (xTurn (tnStore (nat_lit 2) g7 g37)) 
oEnd)))))))) (kSeq (kSeq (oSet (xLook (lkFieldAddr (nat_lit 0) g7)) p38 
(oSet (xLook (lkLoad1 g38)) p39 
(oSet (xLook (lkEq true .int g39 q6)) p40 
oEnd))) (kCond g40 (kSeq (oSet (xMove q67) p2 
oEnd) kRet) kSkip)) (kSeq (oSet (xMove g0) p41 
(oSet (xMove g6) p42 
(oSet (xNil g41) p43 
(oSet (xLook (lkFieldAddr (nat_lit 1) g43)) p44 
(oDo (xTurn (tnStore (nat_lit 1) g44 g42)) 
oEnd))))) (kSeq (oSet (xMove q6) p2 
oEnd) kRet))))))))))⟩
noncomputable def k55 : KFun := ⟨[rTmp (nat_lit 2) g2], (kSeq (oSet (xMove q18) p2 
oEnd) (kSeq (kSeq (oSet (xMove g0) p3 
(oSet (xLook (lkEq false .slice g3 q18)) p4 
oEnd)) (kCond g4 (kSeq (oSet (xMove q18) p2 
oEnd) kRet) kSkip)) (kSeq (oSet (xTurn (tnBuildSlice [] [] (nat_lit 0))) p5 
(oSet (xMove g0) p6 
(oSet (xTurn (tnAppend (nat_lit 33) g5 g6)) p7 
(oSet (xMove g7) p2 
oEnd)))) kRet)))⟩
noncomputable def k56 : KFun := ⟨[rTmp (nat_lit 2) g2], (kSeq (oSet (xMove q0) p2 
oEnd) (kSeq (oSet (xMove g0) p6 
(oSet (xLook (lkBuild q91 [])) p7 
(oSet (xCall q144 [g6, g7]) p8 
(oSet (xMove g8) p5 
(oSet (xLook (lkExtract (nat_lit 0) g5)) p9 
(oSet (xLook (lkExtract (nat_lit 1) g5)) p10 
(oSet (xMove g9) p3 
(oSet (xMove g10) p4 
oEnd)))))))) (kSeq (oSet (xMove g4) p11 
(oSet (xLook (lkEq true .int g11 q16)) p12 
(oSet (xMove g12) p2 
oEnd))) kRet)))⟩
def q146 : OpdF := kC (.func (.func (nat_lit 119)) ⟨[]⟩ ⟨[]⟩)
def q147 : OpdF := kC (.func (.func (nat_lit 120)) ⟨[]⟩ ⟨[]⟩)
noncomputable def k57 : KFun := ⟨[rTmp (nat_lit 2) g2, rTmp (nat_lit 3) g3], (kSeq (oSet (xMove q5) p2 
(oSet (xMove q5) p3 
oEnd)) (kSeq (oSet (xMove g0) p11 
(oSet (xCall q146 [g11]) p12 
(oSet (xMove g12) p10 
(oSet (xLook (lkExtract (nat_lit 0) g10)) p13 
(oSet (xLook (lkExtract (nat_lit 1) g10)) p14 
(oSet (xMove g13) p4 
(oSet (xMove g14) p5 
oEnd))))))) (kSeq (kSeq (oSet (xMove g5) p15 
(oSet (xLook (lkEq true .int g15 q6)) p16 
oEnd)) (kCond g16 (kSeq (oSet (xMove q5) p2 
(oSet (xMove q5) p3 
oEnd)) kRet) kSkip)) (kSeq (oSet (xMove g4) p18 
(oSet (xCall q147 [g18]) p19 
(oSet (xMove g19) p17 
(oSet (xLook (lkExtract (nat_lit 0) g17)) p20 
(oSet (xLook (lkExtract (nat_lit 1) g17)) p21 
(oSet (xMove g20) p6 
(oSet (xMove g21) p7 
oEnd))))))) (kSeq (kSeq (oSet (xMove g7) p22 
(oSet (xLook (lkEq true .int g22 q6)) p23 
oEnd)) (kCond g23 (kSeq (oSet (xMove q5) p2 
(oSet (xMove q5) p3 
oEnd)) kRet) kSkip)) (kSeq (oSet (xMove g6) p25 
(oSet (xCall q26 [g25]) p26 
(oSet (xMove g26) p24 
(oSet (xLook (lkExtract (nat_lit 0) g24)) p27 
(oSet (xLook (lkExtract (nat_lit 1) g24)) p28 
(oSet (xMove g27) p8 
(oSet (xMove g28) p9 
oEnd))))))) (kSeq (kSeq (oSet (xMove g9) p29 
(oSet (xLook (lkEq true .int g29 q6)) p30 
oEnd)) (kCond g30 (kSeq (oSet (xMove q5) p2 
(oSet (xMove q5) p3 
oEnd)) kRet) kSkip)) (kSeq (oSet (xMove g4) p31 
(oSet (xMove g8) p32 
(oSet (xMove g31) p2 
(oSet (xMove g32) p3 
oEnd)))) kRet))))))))⟩
def q148 : List Value := [(.int .i64 (.ofNat (nat_lit 0))), (.int .i64 (.ofNat (nat_lit 0))), (.int .i64 (.ofNat (nat_lit 0))), (.int .i64 (.ofNat (nat_lit 0))), (.int .i64 (.ofNat (nat_lit 0))), (.string ⟨⟨[]⟩⟩)]
def q149 : OpdF := kC (.int .i64 (.ofNat (nat_lit 4)))
def q150 : List Value := [(.int .i64 (.ofNat (nat_lit 0))), (.int .i64 (.ofNat (nat_lit 0))), (.int .i64 (.ofNat (nat_lit 0))), (.int .i64 (.ofNat (nat_lit 0))), (.int .i64 (.ofNat (nat_lit 0))), (.string ⟨⟨[]⟩⟩), (.int .i64 (.ofNat (nat_lit 0))), (.int .i64 (.ofNat (nat_lit 0))), (.int .i64 (.ofNat (nat_lit 0))), (.int .i64 (.ofNat (nat_lit 0))), (.int .i64 (.ofNat (nat_lit 0))), (.string ⟨⟨[]⟩⟩)]
noncomputable def k58 : KFun := ⟨[rTmp (nat_lit 0) g0], (kSeq (oSet (xMove q18) p0 
oEnd) (kSeq (oSet (xLook (lkBuild q148 [((nat_lit 0), (nat_lit 1), q16), ((nat_lit 5), (nat_lit 1), q53)])) p1 
(oSet (xLook (lkBuild q148 [((nat_lit 0), (nat_lit 1), q149)])) p2 
(oSet (xTurn (tnBuildSlice q150 [((nat_lit 0), (nat_lit 6), g1), ((nat_lit 6), (nat_lit 6), g2)] (nat_lit 2))) p3 
(oSet (xMove g3) p0 
oEnd)))) kRet))⟩
def q151 : OpdF := kC (.func (.func (nat_lit 121)) ⟨[]⟩ ⟨[]⟩)
noncomputable def k59 : KFun := ⟨[rTmp (nat_lit 8) g8], (kSeq (oSet (xMove q0) p8 
oEnd) (kSeq (oSet (xMove g0) p12 
(oSet (xMove g1) p13 
(oSet (xMove g2) p14 
(oSet (xCall q11 [g12, g13, g14]) p15 
(oSet (xMove g15) p11 
(oSet (xLook (lkExtract (nat_lit 0) g11)) p16 
(oSet (xLook (lkExtract (nat_lit 1) g11)) p17 
(oSet (xMove g16) p9 
(oSet (xMove g17) p10 
oEnd))))))))) (kSeq (oSet (xMove g10) p18 
(oSet (xLook (lkEq false .int g18 q6)) p19 
(oSet (xMove g19) p20 
(oSetIf (wantT g20) (xMove g9) p21 
(oSetIf (wantT g20) (xMove g3) p22 
(oSetIf (wantT g20) (xCall q151 [g21, g22]) p23 
(oSet (xLook (lkPick g20 g23 q0)) p24 
(oSet (xMove g24) p8 
oEnd)))))))) kRet)))⟩
def q152 : OpdF := kC .nilIface
noncomputable def k60 : KFun := ⟨[], (kSeq (oSet xRecover p4 
oEnd) (kBlock (nat_lit 0) (kSeq (oSet (xLook (lkEq false .ifaceNil g4 q152)) p6 
oEnd) (kCond g6 (oSet (xMove g4) p1 
oEnd) (kSeq (oSet (xLook (lkAssertT (nat_lit 109) (.agg ⟨[(.int .i64 (.ofNat (nat_lit 0)))]⟩) true g4)) p7 
(oSet (xLook (lkExtract (nat_lit 1) g7)) p8 
(oSet (xLook (lkExtract (nat_lit 0) g7)) p9 
oEnd))) (kCond g8 (kSeq (oSet (xTurn (tnAlloc q55)) p2 
(oDo (xTurn (tnStore (nat_lit 1) g2 g9)) 
oEnd)) (oSet (xLook (lkFieldAddr (nat_lit 0) g2)) p10 
(oSet (xLook (lkLoad1 g10)) p11 
(oDo (xTurn (tnStore (nat_lit 1) g0 g11)) 
oEnd)))) (kSeq (oSet (xMove g4) p3 
oEnd) (oSet (xMove g3) p5 
(oDo (xPanic g5) 
oEnd)))))))))⟩
noncomputable def k61 : KFun := ⟨[rTmp (nat_lit 4) g4, rTmp (nat_lit 5) g5], (kSeq (oSet (xTurn (tnBox g1)) p3 
(oSet (xMove q18) p4 
(oSet (xMove q6) p5 
oEnd))) (kSeq (oSet (xMove g0) p9 
(oSet (xLook (lkLoadN (nat_lit 32) g3)) p10 
(oSet (xCall q100 [g9, g10]) p11 
(oSet (xMove g11) p8 
(oSet (xLook (lkExtract (nat_lit 0) g8)) p12 
(oSet (xLook (lkExtract (nat_lit 1) g8)) p13 
(oSet (xMove g12) p6 
(oSet (xMove g13) p7 
oEnd)))))))) (kSeq (kDraw 
(dLook (nat_lit 0) [] [] (lkMove g6) p14 
(dLook (nat_lit 1) [] [] (lkMove g7) p15 
(dTurn (nat_lit 2) [] [] false (xNil g15) p16 
(dLook (nat_lit 3) [] [] (lkFieldAddr (nat_lit 1) g16) p17 
(dLook (nat_lit 4) [] [] (lkLoad1 g17) p18 
(dLook (nat_lit 5) [] [] (lkMove g14) p4 
(dLook (nat_lit 6) [] [] (lkMove g18) p5 (dEnd [(nat_lit 14), (nat_lit 15), (nat_lit 16), (nat_lit 17), (nat_lit 18), (nat_lit 4), (nat_lit 5)]))))))))) kRet)))⟩
def q153 : OpdF := kC (.int .i64 (.ofNat (nat_lit 512)))
def q154 : OpdF := kC (.func (.func (nat_lit 122)) ⟨[]⟩ ⟨[]⟩)
def q155 : OpdF := kC (.func (.func (nat_lit 123)) ⟨[]⟩ ⟨[]⟩)
def q156 : OpdF := kC (.int .i64 (.ofNat (nat_lit 60)))
def q157 : OpdF := kC (.func (.func (nat_lit 124)) ⟨[]⟩ ⟨[]⟩)
def q161 : OpdF := kC (.func (.func (nat_lit 127)) ⟨[]⟩ ⟨[]⟩)
def q162 : OpdF := kC (.int .i64 (.ofNat (nat_lit 200)))
def q163 : OpdF := kC (.func (.func (nat_lit 128)) ⟨[]⟩ ⟨[]⟩)
def q164 : OpdF := kC (.func (.func (nat_lit 129)) ⟨[]⟩ ⟨[]⟩)
def q165 : OpdF := kC (.func (.func (nat_lit 130)) ⟨[]⟩ ⟨[]⟩)
def q166 : OpdF := kC (.func (.func (nat_lit 131)) ⟨[]⟩ ⟨[]⟩)
def q167 : List Value := [(.string ⟨⟨[]⟩⟩), (.string ⟨⟨[]⟩⟩), (.bool false)]
def q168 : OpdF := kC (.func (.func (nat_lit 132)) ⟨[]⟩ ⟨[]⟩)
noncomputable def k63 : KFun := ⟨[rTmp (nat_lit 2) g2], (kSeq (oSet (xTurn (tnBox g0)) p1 
(oSet (xMove q6) p2 
oEnd)) (kSeq (kSeq (oSet (xLook (lkFieldAddr (nat_lit 2) g1)) p8 
(oSet (xLook (lkLoad1 g8)) p9 
(oSet (xLook (lkLen .sl g9)) p10 
(oSet (xLook (lkFieldAddr (nat_lit 3) g1)) p11 
(oSet (xLook (lkLoad1 g11)) p12 
(oSet (xLook (lkLen .sl g12)) p13 
(oSet (xLook (lkBin .add g10 g13)) p14 
(oSet (xLook (lkFieldAddr (nat_lit 4) g1)) p15 
(oSet (xLook (lkLoad1 g15)) p16 
(oSet (xLook (lkLen .sl g16)) p17 
(oSet (xLook (lkBin .add g14 g17)) p18 
(oSet (xLook (lkBin .gtr g18 q156)) p19 
oEnd)))))))))))) (kCond g19 (kSeq (oSet (xMove q83) p2 
oEnd) kRet) kSkip)) (kSeq (oSet (xLook (lkFieldAddr (nat_lit 0) g1)) p20 
(oSet (xLook (lkLoad1 g20)) p21 
(oSet (xLook (lkBin .geq g21 q6)) p22 
(oSet (xMove g22) p23 
(oSetIf (wantT g23) (xLook (lkFieldAddr (nat_lit 0) g1)) p24 
(oSetIf (wantT g23) (xLook (lkLoad1 g24)) p25 
(oSetIf (wantT g23) (xLook (lkBin .leq g25 q83)) p26 
(oSet (xLook (lkPick g23 g26 q0)) p27 
(oSet (xMove g27) p28 
(oSetIf (wantT g28) (xLook (lkFieldAddr (nat_lit 1) g1)) p29 
(oSetIf (wantT g28) (xLook (lkLoad1 g29)) p30 
(oSetIf (wantT g28) (xLook (lkBin .geq g30 q6)) p31 
(oSet (xLook (lkPick g28 g31 q0)) p32 
(oSet (xMove g32) p33 
(oSetIf (wantT g33) (xLook (lkFieldAddr (nat_lit 1) g1)) p34 
(oSetIf (wantT g33) (xLook (lkLoad1 g34)) p35 
(oSetIf (wantT g33) (xLook (lkBin .leq g35 q162)) p36 
(oSet (xLook (lkPick g33 g36 q0)) p37 
(oSet (xMove g37) p38 
(oSetIf (wantT g38) (xLook (lkFieldAddr (nat_lit 2) g1)) p39 
(oSetIf (wantT g38) (xLook (lkLoad1 g39)) p40 
(oSetIf (wantT g38) (xCall q163 [g40]) p41 
(oSet (xLook (lkPick g38 g41 q0)) p42 
(oSet (xMove g42) p43 
(oSetIf (wantT g43) (xLook (lkLoadN (nat_lit 5) g1)) p44 
(oSetIf (wantT g43) (xCall q164 [g44]) p45 
(oSetIf (wantT g43) (xCall q163 [g45]) p46 
(oSet (xLook (lkPick g43 g46 q0)) p47 
(oSet (xMove g47) p48 
(oSetIf (wantT g48) (xLook (lkFieldAddr (nat_lit 3) g1)) p49 
(oSetIf (wantT g48) (xLook (lkLoad1 g49)) p50 
(oSetIf (wantT g48) (xCall q165 [g50]) p51 
(oSet (xLook (lkPick g48 g51 q0)) p52 
(oSet (xMove g52) p3 
oEnd)))))))))))))))))))))))))))))))))) (kSeq (kSeq (oSet (xLook (lkFieldAddr (nat_lit 2) g1)) p53 
(oSet (xLook (lkLoad1 g53)) p54 
(oSet (xLook (lkLen .sl g54)) p55 
(oSet (xMove q6) p56 
oEnd)))) (kBlock (nat_lit 0) (kLoop (kSeq (oSet (xLook (lkBin .lss g56 g55)) p57 
oEnd) (kSeq (kCond g57 kSkip (kExit (nat_lit 0))) (kSeq (kBlock (nat_lit 1) (kSeq (oSet (xLook (lkIxSl (nat_lit 1) g54 g56)) p58 
(oSet (xLook (lkLoad1 g58)) p59 
(oSet (xMove g59) p5 
oEnd))) (oSet (xMove g3) p60 
(oSet (xMove g60) p61 
(oSetIf (wantT g61) (xMove g5) p62 
(oSetIf (wantT g61) (xCall q166 [g62]) p63 
(oSet (xLook (lkPick g61 g63 q0)) p64 
(oSet (xMove g64) p3 
oEnd)))))))) (oSet (xLook (lkBin .add g56 q16)) p65 
(oSet (xMove g65) p56 
oEnd)))))))) (kSeq (kSeq (oSet (xLook (lkFieldAddr (nat_lit 4) g1)) p66 
(oSet (xLook (lkLoad1 g66)) p67 
(oSet (xLook (lkLen .sl g67)) p68 
(oSet (xMove q6) p69 
oEnd)))) (kBlock (nat_lit 2) (kLoop (kSeq (oSet (xLook (lkBin .lss g69 g68)) p70 
oEnd) (kSeq (kCond g70 kSkip (kExit (nat_lit 2))) (kSeq (kBlock (nat_lit 3) (kSeq (oSet (xLook (lkIxSl (nat_lit 3) g67 g69)) p71 
(oSet (xLook (lkLoadN (nat_lit 3) g71)) p72 
(oSet (xTurn (tnAlloc q167)) p7 
(oDo (xTurn (tnStore (nat_lit 3) g7 g72)) 
oEnd)))) (oSet (xMove g3) p73 
(oSet (xMove g73) p74 
(oSetIf (wantT g74) (xLook (lkLoadN (nat_lit 3) g7)) p75 
(oSetIf (wantT g74) (xCall q168 [g75]) p76 
(oSet (xLook (lkPick g74 g76 q0)) p77 
(oSet (xMove g77) p3 
oEnd)))))))) (oSet (xLook (lkBin .add g69 q16)) p78 
(oSet (xMove g78) p69 
oEnd)))))))) (kSeq (kSeq (oSet (xMove g3) p79 
(oSet (xLook (lkUn .not g79)) p80 
(oSet (xMove g80) p81 
(oSetIf (wantF g81) (xLook (lkFieldAddr (nat_lit 0) g1)) p82 
(oSetIf (wantF g81) (xLook (lkLoad1 g82)) p83 
(oSetIf (wantF g81) (xLook (lkEq true .int g83 q6)) p84 
(oSetIf (wantF g81) (xMove g84) p85 
(oSetIf (wantT g85) (xLook (lkFieldAddr (nat_lit 4) g1)) p86 
(oSetIf (wantT g85) (xLook (lkLoad1 g86)) p87 
(oSetIf (wantT g85) (xLook (lkLen .sl g87)) p88 
(oSetIf (wantT g85) (xLook (lkBin .gtr g88 q6)) p89 
(oSetIf (wantF g81) (xLook (lkPick g85 g89 q0)) p90 
(oSet (xLook (lkPick g81 q2 g90)) p91 
oEnd))))))))))))) (kCond g91 (kSeq (oSet (xMove q35) p2 
oEnd) kRet) kSkip)) (kSeq (oSet (xMove q6) p2 
oEnd) kRet)))))))⟩
def q169 : OpdF := kC (.func (.func (nat_lit 65)) ⟨[]⟩ ⟨[]⟩)
def q170 : OpdF := kC (.func (.func (nat_lit 133)) ⟨[]⟩ ⟨[]⟩)
def q171 : List Value := [(.string ⟨⟨[]⟩⟩), (.string ⟨⟨[]⟩⟩), (.string ⟨⟨[]⟩⟩), (.string ⟨⟨[]⟩⟩), (.string ⟨⟨[]⟩⟩), (.string ⟨⟨[]⟩⟩), (.string ⟨⟨[]⟩⟩), (.string ⟨⟨[]⟩⟩), (.map none), (.slice none (nat_lit 0) (nat_lit 0)), (.int .i64 (.ofNat (nat_lit 0))), (.int .i64 (.ofNat (nat_lit 0))), (.int .i64 (.ofNat (nat_lit 0))), (.slice none (nat_lit 0) (nat_lit 0)), (.slice none (nat_lit 0) (nat_lit 0)), (.slice none (nat_lit 0) (nat_lit 0))]
def q172 : OpdF := kC (.func (.func (nat_lit 134)) ⟨[]⟩ ⟨[]⟩)
def q173 : OpdF := kC (.func (.func (nat_lit 136)) ⟨[]⟩ ⟨[]⟩)
def q174 : OpdF := kC (.func (.func (nat_lit 135)) ⟨[]⟩ ⟨[]⟩)
def q175 : OpdF := kC (.func (.func (nat_lit 137)) ⟨[]⟩ ⟨[]⟩)
noncomputable def k65 : KFun := ⟨[rCellN (nat_lit 4) g4 (nat_lit 5), rTmp (nat_lit 5) g5], (kSeq (oSet (xTurn (tnAlloc q68)) p4 
(oSet (xMove q6) p5 
oEnd)) (kSeq (kSeq (oSet (xMove g0) p11 
(oSet (xCall q81 [g11]) p12 
(oSet (xMove g12) p10 
(oSet (xLook (lkExtract (nat_lit 0) g10)) p13 
(oSet (xLook (lkExtract (nat_lit 1) g10)) p14 
(oSet (xMove g13) p6 
(oSet (xMove g14) p7 
oEnd))))))) (kSeq (oSet (xMove g6) p15 
(oSet (xLook (lkEq true .int g15 q6)) p16 
oEnd)) (kCond g16 (kSeq (oSet (xLook (lkBuild q68 [])) p17 
(oSet (xMove g6) p18 
(oDo (xTurn (tnStore (nat_lit 5) g4 g17)) 
(oSet (xMove g18) p5 
oEnd)))) kRet) kSkip))) (kSeq (kSeq (oSet (xMove g1) p19 
(oSet (xCall q170 [g19]) p20 
(oSet (xMove g20) p8 
oEnd))) (kSeq (oSet (xMove g8) p21 
(oSet (xLook (lkEq true .int g21 q6)) p22 
oEnd)) (kCond g22 (kSeq (oSet (xLook (lkBuild q68 [])) p23 
(oSet (xMove g8) p24 
(oDo (xTurn (tnStore (nat_lit 5) g4 g23)) 
(oSet (xMove g24) p5 
oEnd)))) kRet) kSkip))) (kSeq (oSet (xTurn (tnMkMap (.one .str))) p25 
(oSet (xLook (lkBuild q31 [((nat_lit 0), (nat_lit 1), g25)])) p26 
(oSet (xMove g1) p27 
(oSet (xLook (lkBuild q171 [((nat_lit 8), (nat_lit 1), g26), ((nat_lit 9), (nat_lit 1), g27)])) p28 
(oSet (xTurn (tnBox g28)) p29 
(oSet (xMove g29) p9 
oEnd)))))) (kSeq (oSet (xMove g9) p30 
(oSet (xMove g0) p31 
(oSet (xCall q172 [g30, g31]) p32 
oEnd))) (kSeq (kDraw 
(dLook (nat_lit 0) [] [] (lkMove g9) p33 
(dLook (nat_lit 1) [] [] (lkMove g9) p34 
(dLook (nat_lit 2) [] [] (lkMove g9) p35 
(dTurn (nat_lit 3) [] [] false (xNil g35) p36 
(dLook (nat_lit 4) [] [] (lkFieldAddr (nat_lit 11) g36) p37 
(dLook (nat_lit 5) [] [] (lkFieldAddr (nat_lit 2) g37) p38 
(dLook (nat_lit 6) [] [] (lkLoad1 g38) p39 
(dTurn (nat_lit 7) [] [] true (xCall q174 [g39]) p40 
(dLook (nat_lit 8) [] [] (lkMove g9) p41 
(dTurn (nat_lit 9) [] [] false (xNil g41) p42 
(dLook (nat_lit 10) [] [] (lkFieldAddr (nat_lit 11) g42) p43 
(dLook (nat_lit 11) [] [] (lkFieldAddr (nat_lit 3) g43) p44 
(dLook (nat_lit 12) [(nat_lit 7)] [] (lkLoad1 g44) p45 
(dTurn (nat_lit 13) [] [(nat_lit 7)] true (xCall q173 [g45]) p46 
(dTurn (nat_lit 14) [] [(nat_lit 7), (nat_lit 13)] false (xNil g33) p47 
(dLook (nat_lit 15) [] [(nat_lit 7), (nat_lit 13)] (lkFieldAddr (nat_lit 11) g47) p48 
(dLook (nat_lit 16) [] [(nat_lit 7), (nat_lit 13)] (lkFieldAddr (nat_lit 2) g48) p49 
(dTurn (nat_lit 17) [] [(nat_lit 7), (nat_lit 13)] true (xTurn (tnStore (nat_lit 1) g49 g40)) noDst 
(dTurn (nat_lit 18) [] [(nat_lit 7), (nat_lit 13), (nat_lit 17)] false (xNil g34) p50 
(dLook (nat_lit 19) [] [(nat_lit 7), (nat_lit 13), (nat_lit 17)] (lkFieldAddr (nat_lit 11) g50) p51 
(dLook (nat_lit 20) [] [(nat_lit 7), (nat_lit 13), (nat_lit 17)] (lkFieldAddr (nat_lit 3) g51) p52 
(dTurn (nat_lit 21) [] [(nat_lit 7), (nat_lit 13), (nat_lit 17)] true (xTurn (tnStore (nat_lit 1) g52 g46)) noDst (dEnd [(nat_lit 33), (nat_lit 34), (nat_lit 35), (nat_lit 36), (nat_lit 37), (nat_lit 38), (nat_lit 39), (nat_lit 40), (nat_lit 41), (nat_lit 42), (nat_lit 43), (nat_lit 44), (nat_lit 45), (nat_lit 46), (nat_lit 47), (nat_lit 48), (nat_lit 49), (nat_lit 50), (nat_lit 51), (nat_lit 52)])))))))))))))))))))))))) (kSeq (kSeq (oSet (xMove g9) p53 
(oSet (xNil g53) p54 
(oSet (xLook (lkFieldAddr (nat_lit 11) g54)) p55 
(oSet (xLook (lkFieldAddr (nat_lit 0) g55)) p56 
(oSet (xLook (lkLoad1 g56)) p57 
(oSet (xLook (lkEq false .int g57 q6)) p58 
oEnd)))))) (kCond g58 (oSet (xMove g9) p59 
(oSet (xMove g9) p60 
(oSet (xNil g60) p61 
(oSet (xLook (lkFieldAddr (nat_lit 8) g61)) p62 
(oSet (xCall q175 [g62]) p63 
(oSet (xNil g59) p64 
(oSet (xLook (lkFieldAddr (nat_lit 11) g64)) p65 
(oSet (xLook (lkFieldAddr (nat_lit 4) g65)) p66 
(oDo (xTurn (tnStore (nat_lit 1) g66 g63)) 
oEnd))))))))) kSkip)) (kSeq (oSet (xMove g9) p67 
(oSet (xNil g67) p68 
(oSet (xLook (lkFieldAddr (nat_lit 11) g68)) p69 
(oSet (xLook (lkLoadN (nat_lit 5) g69)) p70 
(oDo (xTurn (tnStore (nat_lit 5) g4 g70)) 
(oSet (xMove q6) p5 
oEnd)))))) kRet))))))))⟩
def q176 : OpdF := kC (.func (.func (nat_lit 138)) ⟨[]⟩ ⟨[]⟩)
def q178 : OpdF := kC (.func (.func (nat_lit 140)) ⟨[]⟩ ⟨[]⟩)
def q182 : OpdF := kC (.func (.func (nat_lit 144)) ⟨[]⟩ ⟨[]⟩)
def q183 : CCode := (.region false [⟨none, (some (nat_lit 10)), (.alloc [(.int .i64 (.ofNat (nat_lit 0))), (.int .i64 (.ofNat (nat_lit 0))), (.slice none (nat_lit 0) (nat_lit 0)), (.slice none (nat_lit 0) (nat_lit 0)), (.slice none (nat_lit 0) (nat_lit 0))]), (nat_lit 0), [], []⟩,
⟨none, none, (.store (nat_lit 5) (.tmp (nat_lit 10)) (.tmp (nat_lit 23))), (nat_lit 1), [], []⟩])
def q184 : CCode := (.block (nat_lit 1) (.region false [⟨none, (some (nat_lit 24)), (.load1 (.tmp (nat_lit 8))), (nat_lit 0), [], []⟩,
⟨none, (some (nat_lit 25)), (.loadN (nat_lit 5) (.tmp (nat_lit 10))), (nat_lit 1), [], []⟩,
⟨none, (some (nat_lit 26)), (.buildSlice [(.int .i64 (.ofNat (nat_lit 0))), (.int .i64 (.ofNat (nat_lit 0))), (.slice none (nat_lit 0) (nat_lit 0)), (.slice none (nat_lit 0) (nat_lit 0)), (.slice none (nat_lit 0) (nat_lit 0))] [⟨(nat_lit 0), (nat_lit 5), (.tmp (nat_lit 25))⟩] (nat_lit 1)), (nat_lit 2), [], []⟩,
⟨none, (some (nat_lit 27)), (.append (nat_lit 5) (.tmp (nat_lit 24)) (.tmp (nat_lit 26))), (nat_lit 3), [], []⟩,
⟨none, none, (.store (nat_lit 1) (.tmp (nat_lit 8)) (.tmp (nat_lit 27))), (nat_lit 4), [], []⟩]))
noncomputable def k70 : KFun := ⟨[rTmp (nat_lit 4) g4, rTmp (nat_lit 5) g5], (kSeq (oSet (xTurn (tnBox g1)) p3 
(oSet (xMove q18) p4 
(oSet (xMove q6) p5 
oEnd))) (kSeq (oSet (xMove g0) p12 
(oSet (xLook (lkLoadN (nat_lit 32) g3)) p13 
(oSet (xCall q64 [g12, g13]) p14 
(oSet (xMove g14) p11 
(oSet (xLook (lkExtract (nat_lit 0) g11)) p15 
(oSet (xLook (lkExtract (nat_lit 1) g11)) p16 
(oSet (xMove g15) p6 
(oSet (xMove g16) p7 
oEnd)))))))) (kSeq (kSeq (oSet (xMove g7) p17 
(oSet (xLook (lkEq true .int g17 q6)) p18 
oEnd)) (kCond g18 (kSeq (oSet (xMove g7) p19 
(oSet (xMove q18) p4 
(oSet (xMove g19) p5 
oEnd))) kRet) kSkip)) (kSeq (oSet (xTurn (tnAlloc q28)) p8 
oEnd) (kSeq (kSeq (oSet (xMove g6) p20 
(oSet (xCall q182 [g20]) p21 
oEnd)) (kBlock (nat_lit 0) (kRange g21 [(nat_lit 22), (nat_lit 23)] q183 q184))) (kSeq (kSeq (oSet (xLook (lkLoad1 g8)) p28 
(oSet (xLook (lkLen .sl g28)) p29 
(oSet (xMove g6) p30 
(oSet (xLook (lkLen .sl g30)) p31 
(oSet (xLook (lkBin .lss g29 g31)) p32 
oEnd))))) (kCond g32 (kSeq (oSet (xMove q18) p4 
(oSet (xMove q67) p5 
oEnd)) kRet) kSkip)) (kSeq (oSet (xLook (lkLoad1 g8)) p33 
(oSet (xMove g33) p4 
(oSet (xMove q6) p5 
oEnd))) kRet)))))))⟩
def q186 : OpdF := kC (.func (.func (nat_lit 146)) ⟨[]⟩ ⟨[]⟩)
def q187 : OpdF := kC (.func (.func (nat_lit 147)) ⟨[]⟩ ⟨[]⟩)
def q188 : OpdF := kC (.func (.func (nat_lit 148)) ⟨[]⟩ ⟨[]⟩)
noncomputable def k74 : KFun := ⟨[rTmp (nat_lit 2) g2, rTmp (nat_lit 3) g3], (kSeq (oSet (xMove q6) p2 
(oSet (xMove q6) p3 
oEnd)) (kSeq (kSeq (oSet (xMove g0) p10 
(oSet (xLook (lkLen .sl g10)) p11 
(oSet (xLook (lkBin .gtr g11 q156)) p12 
oEnd))) (kCond g12 (kSeq (oSet (xMove q83) p2 
(oSet (xMove q156) p3 
oEnd)) kRet) kSkip)) (kSeq (kSeq (oSet (xMove g0) p13 
(oSet (xLook (lkLen .sl g13)) p14 
(oSet (xMove q6) p15 
oEnd))) (kBlock (nat_lit 0) (kLoop (kSeq (oSet (xLook (lkBin .lss g15 g14)) p16 
oEnd) (kSeq (kCond g16 kSkip (kExit (nat_lit 0))) (kSeq (kBlock (nat_lit 1) (kSeq (oSet (xMove g15) p17 
(oSet (xLook (lkIxSl (nat_lit 6) g13 g15)) p18 
(oSet (xLook (lkLoadN (nat_lit 6) g18)) p19 
(oSet (xTurn (tnAlloc q148)) p5 
(oSet (xMove g17) p4 
(oDo (xTurn (tnStore (nat_lit 6) g5 g19)) 
oEnd)))))) (kSeq (oSet (xLook (lkLoadN (nat_lit 6) g5)) p20 
(oSet (xCall q186 [g20]) p21 
(oSet (xLook (lkEq true .int g21 q6)) p22 
oEnd))) (kCond g22 (kSeq (oSet (xMove g4) p23 
(oSet (xMove q35) p2 
(oSet (xMove g23) p3 
oEnd))) kRet) kSkip)))) (oSet (xLook (lkBin .add g15 q16)) p24 
(oSet (xMove g24) p15 
oEnd)))))))) (kSeq (kSeq (oSet (xMove g0) p25 
(oSet (xCall q161 [g25]) p26 
(oSet (xMove g26) p6 
oEnd))) (kSeq (oSet (xMove g6) p27 
(oSet (xLook (lkBin .geq g27 q6)) p28 
oEnd)) (kCond g28 (kSeq (oSet (xMove g6) p29 
(oSet (xMove q77) p2 
(oSet (xMove g29) p3 
oEnd))) kRet) kSkip))) (kSeq (oSet (xMove g0) p30 
(oSet (xLook (lkLen .sl g30)) p31 
(oSet (xCall q187 [g31]) p32 
(oSet (xMove g32) p7 
oEnd)))) (kSeq (kSeq (oSet (xMove g0) p33 
(oSet (xLook (lkLen .sl g33)) p34 
(oSet (xMove q6) p35 
oEnd))) (kBlock (nat_lit 2) (kLoop (kSeq (oSet (xLook (lkBin .lss g35 g34)) p36 
oEnd) (kSeq (kCond g36 kSkip (kExit (nat_lit 2))) (kSeq (kBlock (nat_lit 3) (kSeq (oSet (xMove g35) p37 
(oSet (xLook (lkIxSl (nat_lit 6) g33 g35)) p38 
(oSet (xLook (lkLoadN (nat_lit 6) g38)) p39 
(oSet (xTurn (tnAlloc q148)) p9 
(oSet (xMove g37) p8 
(oDo (xTurn (tnStore (nat_lit 6) g9 g39)) 
oEnd)))))) (kSeq (oSet (xMove g7) p40 
(oSet (xLook (lkLoadN (nat_lit 6) g9)) p41 
(oSet (xCall q188 [g41]) p42 
(oSet (xLook (lkBin .add g40 g42)) p43 
(oSet (xMove g43) p7 
oEnd))))) (kSeq (oSet (xMove g7) p44 
(oSet (xLook (lkBin .gtr g44 q153)) p45 
oEnd)) (kCond g45 (kSeq (oSet (xMove g8) p46 
(oSet (xMove q83) p2 
(oSet (xMove g46) p3 
oEnd))) kRet) kSkip))))) (oSet (xLook (lkBin .add g35 q16)) p47 
(oSet (xMove g47) p35 
oEnd)))))))) (kSeq (oSet (xMove q6) p2 
(oSet (xMove q6) p3 
oEnd)) kRet)))))))⟩
def q191 : OpdF := kC (.func (.func (nat_lit 151)) ⟨[]⟩ ⟨[]⟩)
def q192 : OpdF := kC (.int .i64 (.ofNat (nat_lit 2000)))
def q193 : OpdF := kC (.func (.func (nat_lit 152)) ⟨[]⟩ ⟨[]⟩)
def q194 : OpdF := kC (.func (.func (nat_lit 153)) ⟨[]⟩ ⟨[]⟩)
def q195 : OpdF := kC (.func (.func (nat_lit 154)) ⟨[]⟩ ⟨[]⟩)
def q196 : OpdF := kC (.func (.func (nat_lit 155)) ⟨[]⟩ ⟨[]⟩)
def q197 : List Value := [(.int .i64 (.ofNat (nat_lit 0))), (.slice none (nat_lit 0) (nat_lit 0)), (.slice none (nat_lit 0) (nat_lit 0))]
def q198 : OpdF := kC (.func (.func (nat_lit 156)) ⟨[]⟩ ⟨[]⟩)
noncomputable def k76 : KFun := ⟨[rCellN (nat_lit 4) g4 (nat_lit 32), rTmp (nat_lit 5) g5], (kSeq (oSet (xTurn (tnAlloc q91)) p4 
(oSet (xMove q6) p5 
oEnd)) (kSeq (kSeq (oSet (xMove g0) p9 
(oSet (xCall q191 [g9]) p10 
oEnd)) (kCond g10 (kSeq (oSet (xLook (lkBuild q91 [])) p11 
(oDo (xTurn (tnStore (nat_lit 32) g4 g11)) 
(oSet (xMove q16) p5 
oEnd))) kRet) kSkip)) (kSeq (kSeq (oSet (xMove g1) p12 
(oSet (xLook (lkLen .sl g12)) p13 
(oSet (xLook (lkBin .gtr g13 q192)) p14 
(oSet (xMove g14) p15 
(oSetIf (wantF g15) (xMove g1) p16 
(oSetIf (wantF g15) (xCall q193 [g16, q194]) p17 
(oSet (xLook (lkPick g15 q2 g17)) p18 
oEnd))))))) (kCond g18 (kSeq (oSet (xLook (lkBuild q91 [])) p19 
(oDo (xTurn (tnStore (nat_lit 32) g4 g19)) 
(oSet (xMove q83) p5 
oEnd))) kRet) kSkip)) (kSeq (oSet (xTurn (tnBuildSlice [] [] (nat_lit 0))) p20 
(oSet (xMove g20) p6 
oEnd)) (kSeq (kSeq (oSet (xMove g1) p21 
(oSet (xCall q195 [g21, q6, q196]) p22 
(oSet (xLook (lkLen .sl g22)) p23 
(oSet (xMove q6) p24 
oEnd)))) (kBlock (nat_lit 0) (kLoop (kSeq (oSet (xLook (lkBin .lss g24 g23)) p25 
oEnd) (kSeq (kCond g25 kSkip (kExit (nat_lit 0))) (kSeq (kBlock (nat_lit 1) (kSeq (oSet (xLook (lkIxSl (nat_lit 1) g22 g24)) p26 
(oSet (xLook (lkLoad1 g26)) p27 
(oSet (xMove g27) p8 
oEnd))) (oSet (xMove g6) p28 
(oSet (xMove g8) p29 
(oSet (xLook (lkBuild q197 [((nat_lit 1), (nat_lit 1), g29)])) p30 
(oSet (xTurn (tnBuildSlice q197 [((nat_lit 0), (nat_lit 3), g30)] (nat_lit 1))) p31 
(oSet (xTurn (tnAppend (nat_lit 3) g28 g31)) p32 
(oSet (xMove g32) p6 
oEnd)))))))) (oSet (xLook (lkBin .add g24 q16)) p33 
(oSet (xMove g33) p24 
oEnd)))))))) (kSeq (kSeq (oSet (xMove g6) p34 
(oSet (xLook (lkLen .sl g34)) p35 
(oSet (xLook (lkEq false .int g35 q6)) p36 
oEnd))) (kCond g36 (oSet (xMove g6) p37 
(oSet (xLook (lkBuild q197 [])) p38 
(oSet (xTurn (tnBuildSlice q197 [((nat_lit 0), (nat_lit 3), g38)] (nat_lit 1))) p39 
(oSet (xTurn (tnAppend (nat_lit 3) g37 g39)) p40 
(oSet (xMove g40) p6 
oEnd))))) kSkip)) (kSeq (oSet (xMove g0) p41 
(oSet (xMove g6) p42 
(oSet (xCall q198 [g41, g42]) p43 
(oSet (xLook (lkExtract (nat_lit 0) g43)) p44 
(oSet (xLook (lkExtract (nat_lit 1) g43)) p45 
(oDo (xTurn (tnStore (nat_lit 32) g4 g44)) 
(oSet (xMove g45) p5 
oEnd))))))) kRet)))))))⟩
def q199 : OpdF := kC (.func (.func (nat_lit 157)) ⟨[]⟩ ⟨[]⟩)
def q200 : List Value := [(.string ⟨⟨[]⟩⟩)]
noncomputable def k77 : KFun := ⟨[rTmp (nat_lit 2) g2], (kSeq (oSet (xMove q18) p2 
oEnd) (kSeq (oSet (xMove q18) p3 
oEnd) (kSeq (kSeq (oSet (xMove g0) p8 
(oSet (xLook (lkLen .sl g8)) p9 
(oSet (xMove q6) p10 
oEnd))) (kBlock (nat_lit 0) (kLoop (kSeq (oSet (xLook (lkBin .lss g10 g9)) p11 
oEnd) (kSeq (kCond g11 kSkip (kExit (nat_lit 0))) (kSeq (kBlock (nat_lit 1) (kSeq (oSet (xLook (lkIxSl (nat_lit 1) g8 g10)) p12 
(oSet (xLook (lkLoad1 g12)) p13 
(oSet (xMove g13) p5 
oEnd))) (kSeq (oSet (xMove g5) p15 
(oSet (xCall q199 [g15]) p16 
(oSet (xMove g16) p14 
(oSet (xLook (lkExtract (nat_lit 0) g14)) p17 
(oSet (xLook (lkExtract (nat_lit 1) g14)) p18 
(oSet (xMove g17) p6 
(oSet (xMove g18) p7 
oEnd))))))) (kSeq (oSet (xMove g7) p19 
(oSet (xCall q60 [g19]) p20 
oEnd)) (oSet (xMove g3) p21 
(oSet (xMove g6) p22 
(oSet (xLook (lkBytesTo g22)) p23 
(oSet (xTurn (tnBuildSlice q200 [((nat_lit 0), (nat_lit 1), g23)] (nat_lit 1))) p24 
(oSet (xTurn (tnAppend (nat_lit 1) g21 g24)) p25 
(oSet (xMove g25) p3 
oEnd)))))))))) (oSet (xLook (lkBin .add g10 q16)) p26 
(oSet (xMove g26) p10 
oEnd)))))))) (kSeq (oSet (xMove g3) p27 
(oSet (xMove g27) p2 
oEnd)) kRet))))⟩
def q201 : OpdF := kC (.func (.func (nat_lit 158)) ⟨[]⟩ ⟨[]⟩)
def q202 : OpdF := kC (.func (.func (nat_lit 159)) ⟨[]⟩ ⟨[]⟩)
def q203 : OpdF := kC (.func (.func (nat_lit 160)) ⟨[]⟩ ⟨[]⟩)
noncomputable def k78 : KFun := ⟨[rCellN (nat_lit 4) g4 (nat_lit 32), rTmp (nat_lit 5) g5], (kSeq (oSet (xTurn (tnAlloc q91)) p4 
(oSet (xMove q6) p5 
oEnd)) (kSeq (kSeq (oSet (xMove g0) p8 
(oSet (xCall q201 [g8]) p9 
(oSet (xLook (lkUn .not g9)) p10 
oEnd))) (kCond g10 (kSeq (oSet (xLook (lkBuild q91 [])) p11 
(oDo (xTurn (tnStore (nat_lit 32) g4 g11)) 
(oSet (xMove q16) p5 
oEnd))) kRet) kSkip)) (kSeq (oSet (xMove g1) p13 
(oSet (xCall q202 [g13, q203]) p14 
(oSet (xMove g14) p12 
(oSet (xLook (lkExtract (nat_lit 0) g12)) p15 
(oSet (xLook (lkExtract (nat_lit 1) g12)) p16 
(oSet (xMove g15) p6 
(oSet (xMove g16) p7 
oEnd))))))) (kSeq (kSeq (oSet (xMove g7) p17 
(oSet (xLook (lkEq true .int g17 q6)) p18 
oEnd)) (kCond g18 (kSeq (oSet (xLook (lkBuild q91 [])) p19 
(oSet (xMove g7) p20 
(oDo (xTurn (tnStore (nat_lit 32) g4 g19)) 
(oSet (xMove g20) p5 
oEnd)))) kRet) kSkip)) (kSeq (oSet (xMove g0) p21 
(oSet (xMove g6) p22 
(oSet (xCall q85 [g21, g22]) p23 
(oSet (xLook (lkExtract (nat_lit 0) g23)) p24 
(oSet (xLook (lkExtract (nat_lit 1) g23)) p25 
(oDo (xTurn (tnStore (nat_lit 32) g4 g24)) 
(oSet (xMove g25) p5 
oEnd))))))) kRet)))))⟩
def q204 : OpdF := kC (.func (.func (nat_lit 161)) ⟨[]⟩ ⟨[]⟩)
def q205 : OpdF := kC (.func (.func (nat_lit 162)) ⟨[]⟩ ⟨[]⟩)
def q206 : CCode := (.region false [⟨none, (some (nat_lit 4)), (.move (.tmp (nat_lit 9))), (nat_lit 0), [], []⟩])
def q207 : CCode := (.block (nat_lit 1) (.seq (.seq (.region false [⟨none, (some (nat_lit 10)), (.move (.tmp (nat_lit 4))), (nat_lit 0), [], []⟩,
⟨none, (some (nat_lit 11)), (.load1 (.tmp (nat_lit 1))), (nat_lit 1), [], []⟩,
⟨none, (some (nat_lit 12)), (.bin .gtr (.tmp (nat_lit 10)) (.tmp (nat_lit 11))), (nat_lit 2), [], []⟩]) (.cond (.tmp (nat_lit 12)) (.exit (nat_lit 0)) .skip)) (.region false [⟨none, (some (nat_lit 13)), (.load1 (.tmp (nat_lit 3))), (nat_lit 0), [], []⟩,
⟨none, (some (nat_lit 14)), (.move (.tmp (nat_lit 4))), (nat_lit 1), [], []⟩,
⟨none, (some (nat_lit 15)), (.buildSlice [(.int .i64 (.ofNat (nat_lit 0)))] [⟨(nat_lit 0), (nat_lit 1), (.tmp (nat_lit 14))⟩] (nat_lit 1)), (nat_lit 2), [], []⟩,
⟨none, (some (nat_lit 16)), (.append (nat_lit 1) (.tmp (nat_lit 13)) (.tmp (nat_lit 15))), (nat_lit 3), [], []⟩,
⟨none, none, (.store (nat_lit 1) (.tmp (nat_lit 3)) (.tmp (nat_lit 16))), (nat_lit 4), [], []⟩])))
noncomputable def k79 : KFun := ⟨[rTmp (nat_lit 2) g2], (kSeq (oSet (xTurn (tnBox g0)) p1 
(oSet (xMove q18) p2 
oEnd)) (kSeq (kSeq (oSet (xLook (lkLoad1 g1)) p5 
(oSet (xCall q204 [g5]) p6 
(oSet (xLook (lkUn .not g6)) p7 
oEnd))) (kCond g7 (kSeq (oSet (xMove q18) p2 
oEnd) kRet) kSkip)) (kSeq (oSet (xTurn (tnAlloc q28)) p3 
oEnd) (kSeq (kSeq (oSet (xCall q205 []) p8 
oEnd) (kBlock (nat_lit 0) (kRange g8 [(nat_lit 9)] q206 q207))) (kSeq (oSet (xLook (lkLoad1 g3)) p17 
(oSet (xMove g17) p2 
oEnd)) kRet)))))⟩
def q208 : List Value := [(.slice none (nat_lit 0) (nat_lit 0)), (.int .i64 (.ofNat (nat_lit 0)))]
def q209 : OpdF := kC (.func (.func (nat_lit 163)) ⟨[]⟩ ⟨[]⟩)
def q212 : OpdF := kC (.func (.func (nat_lit 165)) ⟨[]⟩ ⟨[]⟩)
def q213 : OpdF := kC (.func (.func (nat_lit 166)) ⟨[]⟩ ⟨[]⟩)
noncomputable def k82 : KFun := ⟨[rTmp (nat_lit 4) g4, rTmp (nat_lit 5) g5], (kSeq (oSet (xTurn (tnBox g1)) p3 
(oSet (xMove q18) p4 
(oSet (xMove q6) p5 
oEnd))) (kSeq (kSeq (oSet (xMove g0) p12 
(oSet (xCall q108 [g12]) p13 
(oSet (xMove g13) p11 
(oSet (xLook (lkExtract (nat_lit 0) g11)) p14 
(oSet (xLook (lkExtract (nat_lit 1) g11)) p15 
(oSet (xMove g14) p6 
(oSet (xMove g15) p7 
oEnd))))))) (kSeq (oSet (xMove g6) p16 
(oSet (xLook (lkEq true .int g16 q6)) p17 
oEnd)) (kCond g17 (kSeq (oSet (xMove g6) p18 
(oSet (xMove q18) p4 
(oSet (xMove g18) p5 
oEnd))) kRet) kSkip))) (kSeq (kSeq (oSet (xLook (lkLoadN (nat_lit 67) g3)) p19 
(oSet (xCall q212 [g19]) p20 
(oSet (xLook (lkUn .not g20)) p21 
oEnd))) (kCond g21 (kSeq (oSet (xMove q18) p4 
(oSet (xMove q35) p5 
oEnd)) kRet) kSkip)) (kSeq (oSet (xMove g0) p23 
(oSet (xLook (lkFieldAddr (nat_lit 0) g3)) p24 
(oSet (xLook (lkLoad1 g24)) p25 
(oSet (xCall q109 [g23, g25]) p26 
(oSet (xMove g26) p22 
(oSet (xLook (lkExtract (nat_lit 0) g22)) p27 
(oSet (xLook (lkExtract (nat_lit 1) g22)) p28 
(oSet (xMove g27) p8 
(oSet (xMove g28) p9 
oEnd))))))))) (kSeq (oSet (xMove g0) p29 
(oSet (xCall q117 [g29]) p30 
(oSet (xMove g30) p10 
oEnd))) (kSeq (kBlock (nat_lit 0) (kSeq (oSet (xMove g9) p38 
(oSet (xMove g38) p37 
oEnd)) (kCond g37 (oSet (xMove g10) p39 
(oSet (xMove g8) p40 
(oSet (xLook (lkLoadN (nat_lit 67) g3)) p41 
(oSet (xCall q110 [g41]) p42 
(oSet (xLook (lkIxSl (nat_lit 67) g39 g40)) p43 
(oDo (xTurn (tnStore (nat_lit 67) g43 g42)) 
oEnd)))))) (kSeq (oSet (xMove g0) p45 
(oSet (xLook (lkLen .sl g45)) p46 
(oSet (xLook (lkEq false .int g46 q37)) p47 
(oSet (xMove g47) p44 
oEnd)))) (kCond g44 (kSeq (oSet (xMove q18) p4 
(oSet (xMove q83) p5 
oEnd)) kRet) (oSet (xMove g10) p31 
(oSet (xMove g8) p32 
(oSet (xLook (lkLoadN (nat_lit 67) g3)) p33 
(oSet (xCall q110 [g33]) p34 
(oSet (xTurn (tnBuildSlice q14 [((nat_lit 0), (nat_lit 67), g34)] (nat_lit 1))) p35 
(oSet (xCall q213 [g31, g32, g35]) p36 
(oSet (xMove g36) p10 
oEnd)))))))))))) (kSeq (oSet (xMove g10) p48 
(oSet (xMove g48) p4 
(oSet (xMove q6) p5 
oEnd))) kRet)))))))⟩
def q214 : OpdF := kC (.func (.func (nat_lit 167)) ⟨[]⟩ ⟨[]⟩)
noncomputable def k83 : KFun := ⟨[rCellN (nat_lit 4) g4 (nat_lit 33), rTmp (nat_lit 5) g5], (kSeq (oSet (xTurn (tnAlloc q92)) p4 
(oSet (xMove q0) p5 
oEnd)) (kSeq (oSet (xMove g0) p7 
(oSet (xMove g1) p8 
(oSet (xCall q214 [g7, g8]) p9 
(oSet (xMove g9) p6 
oEnd)))) (kSeq (kSeq (oSet (xMove g6) p10 
(oSet (xLook (lkLen .sl g10)) p11 
(oSet (xLook (lkEq false .int g11 q6)) p12 
oEnd))) (kCond g12 (kSeq (oSet (xLook (lkBuild q92 [])) p13 
(oDo (xTurn (tnStore (nat_lit 33) g4 g13)) 
(oSet (xMove q0) p5 
oEnd))) kRet) kSkip)) (kSeq (oSet (xMove g6) p14 
(oSet (xMove g6) p15 
(oSet (xLook (lkLen .sl g15)) p16 
(oSet (xLook (lkBin .sub g16 q16)) p17 
(oSet (xLook (lkIxSl (nat_lit 33) g14 g17)) p18 
(oSet (xLook (lkLoadN (nat_lit 33) g18)) p19 
(oDo (xTurn (tnStore (nat_lit 33) g4 g19)) 
(oSet (xMove q2) p5 
oEnd)))))))) kRet))))⟩
noncomputable def k85 : KFun := ⟨[rTmp (nat_lit 10) g10, rTmp (nat_lit 11) g11], (kSeq (oSet (xTurn (tnBox g1)) p6 
(oSet (xMove q18) p10 
(oSet (xMove q6) p11 
oEnd))) (kSeq (oSet (xMove g0) p19 
(oSet (xLook (lkLoadN (nat_lit 32) g6)) p20 
(oSet (xCall q75 [g19, g20]) p21 
(oSet (xMove g21) p18 
(oSet (xLook (lkExtract (nat_lit 0) g18)) p22 
(oSet (xLook (lkExtract (nat_lit 1) g18)) p23 
(oSet (xMove g22) p12 
(oSet (xMove g23) p13 
oEnd)))))))) (kSeq (kSeq (oSet (xMove g13) p24 
(oSet (xLook (lkEq true .int g24 q6)) p25 
oEnd)) (kCond g25 (kSeq (oSet (xMove g13) p26 
(oSet (xMove q18) p10 
(oSet (xMove g26) p11 
oEnd))) kRet) kSkip)) (kSeq (kSeq (oSet (xMove g3) p27 
(oSet (xLook (lkBin .lss g27 q6)) p28 
(oSet (xMove g28) p29 
(oSetIf (wantF g29) (xMove g4) p30 
(oSetIf (wantF g29) (xMove g3) p31 
(oSetIf (wantF g29) (xLook (lkBin .lss g30 g31)) p32 
(oSet (xLook (lkPick g29 q2 g32)) p33 
(oSet (xMove g33) p34 
(oSetIf (wantF g34) (xMove g4) p35 
(oSetIf (wantF g34) (xMove g12) p36 
(oSetIf (wantF g34) (xLook (lkLen .sl g36)) p37 
(oSetIf (wantF g34) (xLook (lkBin .gtr g35 g37)) p38 
(oSet (xLook (lkPick g34 q2 g38)) p39 
oEnd))))))))))))) (kCond g39 (kSeq (oSet (xMove q18) p10 
(oSet (xMove q77) p11 
oEnd)) kRet) kSkip)) (kSeq (kSeq (oSet (xMove g2) p40 
(oSet (xCall q170 [g40]) p41 
(oSet (xMove g41) p14 
oEnd))) (kSeq (oSet (xMove g14) p42 
(oSet (xLook (lkEq true .int g42 q6)) p43 
oEnd)) (kCond g43 (kSeq (oSet (xMove g14) p44 
(oSet (xMove q18) p10 
(oSet (xMove g44) p11 
oEnd))) kRet) kSkip))) (kSeq (oSet (xMove g2) p45 
(oSet (xTurn (tnAppend (nat_lit 2) q18 g45)) p46 
(oSet (xMove g46) p15 
oEnd))) (kSeq (kSeq (oSet (xMove g12) p47 
(oSet (xMove g3) p48 
(oSet (xMove g4) p49 
(oSet (xLook (lkSliceSl (nat_lit 5) g47 (some g48) (some g49) none)) p50 
(oSet (xLook (lkLen .sl g50)) p51 
(oSet (xMove q6) p52 
oEnd)))))) (kBlock (nat_lit 0) (kLoop (kSeq (oSet (xLook (lkBin .lss g52 g51)) p53 
oEnd) (kSeq (kCond g53 kSkip (kExit (nat_lit 0))) (kSeq (kBlock (nat_lit 1) (kSeq (oSet (xLook (lkIxSl (nat_lit 5) g50 g52)) p54 
(oSet (xLook (lkLoadN (nat_lit 5) g54)) p55 
(oSet (xTurn (tnAlloc q68)) p17 
(oDo (xTurn (tnStore (nat_lit 5) g17 g55)) 
oEnd)))) (kSeq (oSet (xMove g15) p57 
(oSet (xLook (lkFieldAddr (nat_lit 4) g17)) p58 
(oSet (xLook (lkLoad1 g58)) p59 
(oSet (xCall q176 [g57, g59]) p60 
(oSet (xMove g60) p56 
(oSet (xLook (lkExtract (nat_lit 0) g56)) p61 
(oSet (xLook (lkExtract (nat_lit 1) g56)) p62 
(oSet (xMove g61) p15 
(oSet (xMove g62) p13 
oEnd))))))))) (kSeq (oSet (xMove g13) p63 
(oSet (xLook (lkEq true .int g63 q6)) p64 
oEnd)) (kCond g64 (kSeq (oSet (xMove g13) p65 
(oSet (xMove q18) p10 
(oSet (xMove g65) p11 
oEnd))) kRet) kSkip))))) (oSet (xLook (lkBin .add g52 q16)) p66 
(oSet (xMove g66) p52 
oEnd)))))))) (kSeq (oSet (xMove g15) p67 
(oSet (xMove g67) p10 
(oSet (xMove q6) p11 
oEnd))) kRet))))))))⟩
def q217 : List Value := [(.pointer none), (.int .i64 (.ofNat (nat_lit 0))), (.map none)]
def q218 : OpdF := kC (.func (.func (nat_lit 169)) ⟨[]⟩ ⟨[]⟩)
def q219 : CCode := (.region false [⟨none, (some (nat_lit 9)), (.move (.tmp (nat_lit 24))), (nat_lit 0), [], []⟩])
def q220 : CCode := (.block (nat_lit 1) (.region false [⟨none, (some (nat_lit 25)), (.load1 (.tmp (nat_lit 7))), (nat_lit 0), [], []⟩,
⟨none, (some (nat_lit 26)), (.move (.tmp (nat_lit 9))), (nat_lit 1), [], []⟩,
⟨none, (some (nat_lit 27)), (.buildSlice [(.string ⟨⟨[]⟩⟩)] [⟨(nat_lit 0), (nat_lit 1), (.tmp (nat_lit 26))⟩] (nat_lit 1)), (nat_lit 2), [], []⟩,
⟨none, (some (nat_lit 28)), (.append (nat_lit 1) (.tmp (nat_lit 25)) (.tmp (nat_lit 27))), (nat_lit 3), [], []⟩,
⟨none, none, (.store (nat_lit 1) (.tmp (nat_lit 7)) (.tmp (nat_lit 28))), (nat_lit 4), [], []⟩]))
noncomputable def k86 : KFun := ⟨[rTmp (nat_lit 4) g4, rTmp (nat_lit 5) g5], (kSeq (oSet (xTurn (tnBox g1)) p3 
(oSet (xMove q18) p4 
(oSet (xMove q5) p5 
oEnd))) (kSeq (oSet (xMove g0) p10 
(oSet (xTurn (tnMkMap (.many (nat_lit 32) .u8))) p11 
(oSet (xLook (lkBuild q217 [((nat_lit 0), (nat_lit 1), g10), ((nat_lit 2), (nat_lit 1), g11)])) p12 
(oSet (xTurn (tnBox g12)) p13 
(oSet (xMove g13) p6 
oEnd))))) (kSeq (kSeq (oSet (xMove g0) p14 
(oSet (xCall q191 [g14]) p15 
oEnd)) (kCond g15 (kSeq (oSet (xMove g6) p16 
(oSet (xNil g16) p17 
(oSet (xLook (lkFieldAddr (nat_lit 1) g17)) p18 
(oDo (xTurn (tnStore (nat_lit 1) g18 q16)) 
oEnd)))) (kSeq (oSet (xMove g6) p19 
(oSet (xMove q18) p4 
(oSet (xMove g19) p5 
oEnd))) kRet)) kSkip)) (kSeq (oSet (xTurn (tnAlloc q28)) p7 
oEnd) (kSeq (kSeq (oSet (xMove g6) p20 
(oSet (xLook (lkLoadN (nat_lit 32) g3)) p21 
(oSet (xCall q218 [g20, g21]) p22 
oEnd))) (kBlock (nat_lit 0) (kRange g22 [(nat_lit 23), (nat_lit 24)] q219 q220))) (kSeq (kSeq (oSet (xMove g6) p29 
(oSet (xNil g29) p30 
(oSet (xLook (lkFieldAddr (nat_lit 1) g30)) p31 
(oSet (xLook (lkLoad1 g31)) p32 
(oSet (xLook (lkEq true .int g32 q6)) p33 
oEnd))))) (kCond g33 (kSeq (oSet (xMove g6) p34 
(oSet (xMove q18) p4 
(oSet (xMove g34) p5 
oEnd))) kRet) kSkip)) (kSeq (oSet (xLook (lkLoad1 g7)) p35 
(oSet (xMove g6) p36 
(oSet (xMove g35) p4 
(oSet (xMove g36) p5 
oEnd)))) kRet)))))))⟩
def q221 : OpdF := kC (.func (.func (nat_lit 171)) ⟨[]⟩ ⟨[]⟩)
def q225 : OpdF := kC .nilFunc
noncomputable def k93d0 : KD := 
(dLook (nat_lit 17) [] [(nat_lit 1)] (lkPick g19 q2 g32) p33 (dEnd [(nat_lit 16), (nat_lit 17), (nat_lit 18), (nat_lit 19), (nat_lit 20), (nat_lit 21), (nat_lit 22), (nat_lit 23), (nat_lit 24), (nat_lit 25), (nat_lit 26), (nat_lit 27), (nat_lit 28), (nat_lit 29), (nat_lit 30), (nat_lit 31), (nat_lit 32), (nat_lit 33)]))
noncomputable def k93d1 : KD := 
(dIf [(nat_lit 1)] (wantF g19) p32 (dLook (nat_lit 16) [] [(nat_lit 1)] (lkPick g22 g31 q0) p32 k93d0) k93d0)
noncomputable def k93d2 : KD := 
(dIf [(nat_lit 1)] (wantT g22) p31 (dLook (nat_lit 15) [] [(nat_lit 1)] (lkBin .geq g28 g30) p31 k93d1) k93d1)
noncomputable def k93d3 : KD := 
(dIf [(nat_lit 1)] (wantT g22) p30 (dLook (nat_lit 14) [] [(nat_lit 1)] (lkLoad1 g29) p30 k93d2) k93d2)
noncomputable def k93d4 : KD := 
(dIf [(nat_lit 1)] (wantT g22) p29 (dLook (nat_lit 13) [] [(nat_lit 1)] (lkFieldAddr (nat_lit 0) g5) p29 k93d3) k93d3)
noncomputable def k93d5 : KD := 
(dIf [(nat_lit 1)] (wantT g22) p28 (dLook (nat_lit 12) [] [(nat_lit 1)] (lkLoad1 g27) p28 k93d4) k93d4)
noncomputable def k93d6 : KD := 
(dIf [(nat_lit 1)] (wantT g22) p27 (dLook (nat_lit 11) [] [(nat_lit 1)] (lkFieldAddr (nat_lit 0) g26) p27 k93d5) k93d5)
noncomputable def k93d7 : KD := 
(dIf [(nat_lit 1)] (wantT g22) p26 (dLook (nat_lit 10) [] [(nat_lit 1)] (lkIxSl (nat_lit 67) g23 g25) p26 k93d6) k93d6)
noncomputable def k93d8 : KD := 
(dIf [(nat_lit 1)] (wantT g22) p25 (dLook (nat_lit 9) [] [(nat_lit 1)] (lkBin .sub g24 q16) p25 k93d7) k93d7)
noncomputable def k93d9 : KD := 
(dIf [(nat_lit 1)] (wantT g22) p24 (dLook (nat_lit 8) [] [(nat_lit 1)] (lkMove g4) p24 k93d8) k93d8)
noncomputable def k93d10 : KD := 
(dIf [(nat_lit 1)] (wantT g22) p23 (dLook (nat_lit 7) [] [(nat_lit 1)] (lkMove g0) p23 k93d9) k93d9)
noncomputable def k93d11 : KD := 
(dIf [(nat_lit 1)] (wantF g19) p22 (dLook (nat_lit 6) [] [(nat_lit 1)] (lkMove g21) p22 k93d10) k93d10)
noncomputable def k93d12 : KD := 
(dIf [(nat_lit 1)] (wantF g19) p21 (dLook (nat_lit 5) [] [(nat_lit 1)] (lkBin .gtr g20 q6) p21 k93d11) k93d11)
noncomputable def k93 : KFun := ⟨[rTmp (nat_lit 2) g2, rTmp (nat_lit 3) g3], (kSeq (oSet (xMove q6) p2 
(oSet (xMove q6) p3 
oEnd)) (kSeq (kSeq (oSet (xMove g0) p6 
(oSet (xLook (lkLen .sl g6)) p7 
(oSet (xLook (lkBin .gtr g7 q37)) p8 
oEnd))) (kCond g8 (kSeq (oSet (xMove q83) p2 
(oSet (xMove q37) p3 
oEnd)) kRet) kSkip)) (kSeq (kSeq (oSet (xMove g0) p9 
(oSet (xLook (lkLen .sl g9)) p10 
(oSet (xMove q6) p11 
oEnd))) (kBlock (nat_lit 0) (kLoop (kSeq (oSet (xLook (lkBin .lss g11 g10)) p12 
oEnd) (kSeq (kCond g12 kSkip (kExit (nat_lit 0))) (kSeq (kBlock (nat_lit 1) (kSeq (oSet (xMove g11) p13 
(oSet (xLook (lkIxSl (nat_lit 67) g9 g11)) p14 
(oSet (xLook (lkLoadN (nat_lit 67) g14)) p15 
(oSet (xTurn (tnAlloc q14)) p5 
(oSet (xMove g13) p4 
(oDo (xTurn (tnStore (nat_lit 67) g5 g15)) 
oEnd)))))) (kSeq (kDraw 
(dLook (nat_lit 0) [] [] (lkLoadN (nat_lit 67) g5) p16 
(dTurn (nat_lit 1) [] [] true (xCall q212 [g16]) p17 
(dLook (nat_lit 2) [] [(nat_lit 1)] (lkUn .not g17) p18 
(dLook (nat_lit 3) [] [(nat_lit 1)] (lkMove g18) p19 
(dIf [(nat_lit 1)] (wantF g19) p20 (dLook (nat_lit 4) [] [(nat_lit 1)] (lkMove g4) p20 k93d12) k93d12)))))) (kCond g33 (kSeq (oSet (xMove g4) p34 
(oSet (xMove q35) p2 
(oSet (xMove g34) p3 
oEnd))) kRet) kSkip)))) (oSet (xLook (lkBin .add g11 q16)) p35 
(oSet (xMove g35) p11 
oEnd)))))))) (kSeq (oSet (xMove q6) p2 
(oSet (xMove q6) p3 
oEnd)) kRet))))⟩
def q226 : OpdF := kC (.func (.func (nat_lit 176)) ⟨[]⟩ ⟨[]⟩)
def q227 : OpdF := kC (.func (.func (nat_lit 177)) ⟨[]⟩ ⟨[]⟩)
noncomputable def k94 : KFun := ⟨[rTmp (nat_lit 4) g4, rTmp (nat_lit 5) g5], (kSeq (oSet (xMove q6) p4 
(oSet (xMove q0) p5 
oEnd)) (kSeq (oSet (xMove g0) p6 
(oSet (xMove g1) p7 
(oSet (xCall q226 [g6, g7, q227]) p8 
(oSet (xLook (lkExtract (nat_lit 0) g8)) p9 
(oSet (xLook (lkExtract (nat_lit 1) g8)) p10 
(oSet (xMove g9) p4 
(oSet (xMove g10) p5 
oEnd))))))) kRet))⟩
noncomputable def k95 : KFun := ⟨[rCellN (nat_lit 2) g2 (nat_lit 67)], (kSeq (oSet (xTurn (tnBox g0)) p1 
(oSet (xTurn (tnAlloc q14)) p2 
oEnd)) (kSeq (oSet (xLook (lkFieldAddr (nat_lit 66) g1)) p3 
(oSet (xLook (lkLoad1 g3)) p4 
(oSet (xCall q44 [g4]) p5 
(oSet (xLook (lkFieldAddr (nat_lit 66) g1)) p6 
(oDo (xTurn (tnStore (nat_lit 1) g6 g5)) 
oEnd))))) (kSeq (oSet (xLook (lkLoadN (nat_lit 67) g1)) p7 
(oDo (xTurn (tnStore (nat_lit 67) g2 g7)) 
oEnd)) kRet)))⟩
def q228 : OpdF := kC (.int .u8 (.ofNat (nat_lit 128)))
def q229 : OpdF := kC (.func (.func (nat_lit 179)) ⟨[]⟩ ⟨[]⟩)
def q230 : OpdF := kC (.func (.func (nat_lit 180)) ⟨[]⟩ ⟨[]⟩)
def q231 : OpdF := kC (.func (.func (nat_lit 181)) ⟨[]⟩ ⟨[]⟩)
def q232 : List Value := [(.bool false), (.bool false), (.bool false), (.bool false), (.bool false), (.bool false), (.bool false), (.bool false), (.bool false), (.bool false), (.bool false), (.bool false), (.bool false), (.bool false), (.bool false), (.bool false), (.bool false), (.bool false), (.bool false), (.bool false), (.bool false), (.bool false), (.bool false), (.bool false), (.bool false), (.bool false), (.bool false), (.bool false), (.bool false), (.bool false), (.bool false), (.bool false), (.bool false), (.bool false), (.bool false), (.bool false), (.bool false), (.bool false), (.bool false), (.bool false), (.bool false), (.bool false), (.bool false), (.bool false), (.bool false), (.bool false), (.bool false), (.bool false), (.bool false), (.bool false), (.bool false), (.bool false), (.bool false), (.bool false), (.bool false), (.bool false), (.bool false), (.bool false), (.bool false), (.bool false), (.bool false), (.bool false), (.bool false), (.bool false), (.bool false), (.bool false), (.bool false), (.bool false), (.bool false), (.bool false), (.bool false), (.bool false), (.bool false), (.bool false), (.bool false), (.bool false), (.bool false), (.bool false), (.bool false), (.bool false), (.bool false), (.bool false), (.bool false), (.bool false), (.bool false), (.bool false), (.bool false), (.bool false), (.bool false), (.bool false), (.bool false), (.bool false), (.bool false), (.bool false), (.bool false), (.bool false), (.bool false), (.bool false), (.bool false), (.bool false), (.bool false), (.bool false), (.bool false), (.bool false), (.bool false), (.bool false), (.bool false), (.bool false), (.bool false), (.bool false), (.bool false), (.bool false), (.bool false), (.bool false), (.bool false), (.bool false), (.bool false), (.bool false), (.bool false), (.bool false), (.bool false), (.bool false), (.bool false), (.bool false), (.bool false), (.bool false), (.bool false), (.bool false), (.bool false), (.bool false), (.bool false), (.bool false), (.bool false), (.bool false), (.bool false), (.bool false), (.bool false), (.bool false), (.bool false), (.bool false), (.bool false), (.bool false), (.bool false), (.bool false), (.bool false), (.bool false), (.bool false), (.bool false), (.bool false), (.bool false), (.bool false), (.bool false), (.bool false), (.bool false), (.bool false), (.bool false), (.bool false), (.bool false), (.bool false), (.bool false), (.bool false), (.bool false), (.bool false), (.bool false), (.bool false), (.bool false), (.bool false), (.bool false), (.bool false), (.bool false), (.bool false), (.bool false), (.bool false), (.bool false), (.bool false), (.bool false), (.bool false), (.bool false), (.bool false), (.bool false), (.bool false), (.bool false), (.bool false), (.bool false), (.bool false), (.bool false), (.bool false), (.bool false), (.bool false), (.bool false), (.bool false), (.bool false), (.bool false), (.bool false), (.bool false), (.bool false), (.bool false), (.bool false), (.bool false), (.bool false), (.bool false), (.bool false), (.bool false), (.bool false), (.bool false), (.bool false), (.bool false), (.bool false), (.bool false), (.bool false), (.bool false), (.bool false), (.bool false), (.bool false), (.bool false), (.bool false), (.bool false), (.bool false), (.bool false), (.bool false), (.bool false), (.bool false), (.bool false), (.bool false), (.bool false), (.bool false), (.bool false), (.bool false), (.bool false), (.bool false), (.bool false), (.bool false), (.bool false), (.bool false), (.bool false), (.bool false), (.bool false), (.bool false), (.bool false), (.bool false), (.bool false), (.bool false), (.bool false), (.bool false), (.bool false), (.bool false), (.bool false), (.bool false), (.bool false), (.bool false), (.bool false), (.bool false), (.bool false), (.bool false), (.bool false), (.bool false)]
def q233 : OpdF := kC (.func (.func (nat_lit 183)) ⟨[]⟩ ⟨[]⟩)
def q234 : OpdF := kC (.func (.func (nat_lit 182)) ⟨[]⟩ ⟨[]⟩)
def q235 : OpdF := kC (.func (.func (nat_lit 185)) ⟨[]⟩ ⟨[]⟩)
def q236 : OpdF := kC (.func (.func (nat_lit 184)) ⟨[]⟩ ⟨[]⟩)
noncomputable def k96 : KFun := ⟨[rTmp (nat_lit 4) g4], (kSeq (oSet (xMove q111) p4 
oEnd) (kSeq (kSeq (oSet (xMove g0) p7 
(oSet (xLook (lkEq false .str g7 q111)) p8 
(oSet (xMove g8) p9 
(oSetIf (wantF g9) (xMove g1) p10 
(oSetIf (wantF g9) (xLook (lkEq false .str g10 q111)) p11 
(oSet (xLook (lkPick g9 q2 g11)) p12 
oEnd)))))) (kCond g12 (kSeq (oSet (xMove g0) p13 
(oSet (xMove g13) p4 
oEnd)) kRet) kSkip)) (kSeq (kSeq (oSet (xMove g1) p14 
(oSet (xLook (lkLen .str g14)) p15 
(oSet (xLook (lkEq false .int g15 q16)) p16 
(oSet (xMove g16) p17 
(oSetIf (wantT g17) (xMove g1) p18 
(oSetIf (wantT g17) (xLook (lkIxStr g18 q6)) p19 
(oSetIf (wantT g17) (xLook (lkBin .lss g19 q228)) p20 
(oSet (xLook (lkPick g17 g20 q0)) p21 
oEnd)))))))) (kCond g21 (kSeq (kDraw 
(dLook (nat_lit 0) [] [] (lkMove g0) p22 
(dLook (nat_lit 1) [] [] (lkMove g1) p23 
(dLook (nat_lit 2) [] [] (lkIxStr g23 q6) p24 
(dTurn (nat_lit 3) [] [] true (xCall q230 [g22, g24]) p25 
(dLook (nat_lit 4) [] [] (lkMove g1) p26 
(dLook (nat_lit 5) [] [] (lkIxStr g26 q6) p27 
(dTurn (nat_lit 6) [] [(nat_lit 3)] true (xCall q229 [g25, g27]) p28 
(dLook (nat_lit 7) [] [(nat_lit 3), (nat_lit 6)] (lkMove g28) p4 (dEnd [(nat_lit 22), (nat_lit 23), (nat_lit 24), (nat_lit 25), (nat_lit 26), (nat_lit 27), (nat_lit 28), (nat_lit 4)])))))))))) kRet) kSkip)) (kSeq (kSeq (oSet (xMove g1) p30 
(oSet (xCall q231 [g30]) p31 
(oSet (xMove g31) p29 
(oSet (xLook (lkExtract (nat_lit 0) g29)) p32 
(oSet (xLook (lkExtract (nat_lit 1) g29)) p33 
(oSet (xTurn (tnAlloc q232)) p5 
(oDo (xTurn (tnStore (nat_lit 256) g5 g32)) 
(oSet (xMove g33) p6 
oEnd)))))))) (kSeq (oSet (xMove g6) p34 
oEnd) (kCond g34 (kSeq (oSet (xMove g0) p35 
(oSet (xCall q233 [g35, g5]) p36 
(oSet (xCall q234 [g36, g5]) p37 
(oSet (xMove g37) p4 
oEnd)))) kRet) kSkip))) (kSeq (oSet (xMove g0) p38 
(oSet (xMove g1) p39 
(oSet (xCall q235 [g38, g39]) p40 
(oSet (xMove g1) p41 
(oSet (xCall q236 [g40, g41]) p42 
(oSet (xMove g42) p4 
oEnd)))))) kRet)))))⟩
def q237 : OpdF := kC (.func (.func (nat_lit 186)) ⟨[]⟩ ⟨[]⟩)
def q238 : CCode := (.region false [⟨none, (some (nat_lit 12)), (.alloc [(.int .i64 (.ofNat (nat_lit 0))), (.int .i64 (.ofNat (nat_lit 0))), (.slice none (nat_lit 0) (nat_lit 0)), (.slice none (nat_lit 0) (nat_lit 0)), (.slice none (nat_lit 0) (nat_lit 0))]), (nat_lit 0), [], []⟩,
⟨none, none, (.store (nat_lit 5) (.tmp (nat_lit 12)) (.tmp (nat_lit 32))), (nat_lit 1), [], []⟩])
def q239 : CCode := (.block (nat_lit 1) (.region false [⟨none, (some (nat_lit 33)), (.load1 (.tmp (nat_lit 10))), (nat_lit 0), [], []⟩,
⟨none, (some (nat_lit 34)), (.loadN (nat_lit 5) (.tmp (nat_lit 12))), (nat_lit 1), [], []⟩,
⟨none, (some (nat_lit 35)), (.buildSlice [(.int .i64 (.ofNat (nat_lit 0))), (.int .i64 (.ofNat (nat_lit 0))), (.slice none (nat_lit 0) (nat_lit 0)), (.slice none (nat_lit 0) (nat_lit 0)), (.slice none (nat_lit 0) (nat_lit 0))] [⟨(nat_lit 0), (nat_lit 5), (.tmp (nat_lit 34))⟩] (nat_lit 1)), (nat_lit 2), [], []⟩,
⟨none, (some (nat_lit 36)), (.append (nat_lit 5) (.tmp (nat_lit 33)) (.tmp (nat_lit 35))), (nat_lit 3), [], []⟩,
⟨none, none, (.store (nat_lit 1) (.tmp (nat_lit 10)) (.tmp (nat_lit 36))), (nat_lit 4), [], []⟩]))
noncomputable def k97 : KFun := ⟨[rTmp (nat_lit 4) g4, rTmp (nat_lit 5) g5, rTmp (nat_lit 6) g6], (kSeq (oSet (xMove q18) p4 
(oSet (xMove q18) p5 
(oSet (xMove q6) p6 
oEnd))) (kSeq (kSeq (oSet (xMove g1) p13 
(oSet (xCall q76 [g13]) p14 
(oSet (xMove g14) p7 
oEnd))) (kSeq (oSet (xMove g7) p15 
(oSet (xLook (lkEq true .int g15 q6)) p16 
oEnd)) (kCond g16 (kSeq (oSet (xMove g7) p17 
(oSet (xMove q18) p4 
(oSet (xMove q18) p5 
(oSet (xMove g17) p6 
oEnd)))) kRet) kSkip))) (kSeq (kSeq (oSet (xMove g0) p18 
(oSet (xCall q170 [g18]) p19 
(oSet (xMove g19) p8 
oEnd))) (kSeq (oSet (xMove g8) p20 
(oSet (xLook (lkEq true .int g20 q6)) p21 
oEnd)) (kCond g21 (kSeq (oSet (xMove g8) p22 
(oSet (xMove q18) p4 
(oSet (xMove q18) p5 
(oSet (xMove g22) p6 
oEnd)))) kRet) kSkip))) (kSeq (oSet (xMove g0) p23 
(oSet (xTurn (tnAppend (nat_lit 2) q18 g23)) p24 
(oSet (xLook (lkBuild q208 [((nat_lit 0), (nat_lit 1), g24)])) p25 
(oSet (xLook (lkBuild q208 [((nat_lit 0), (nat_lit 2), g25)])) p26 
(oSet (xTurn (tnBox g26)) p27 
(oSet (xMove g27) p9 
oEnd)))))) (kSeq (oSet (xTurn (tnAlloc q28)) p10 
oEnd) (kSeq (kSeq (oSet (xMove g9) p28 
(oSet (xMove g1) p29 
(oSet (xCall q237 [g28, g29]) p30 
oEnd))) (kBlock (nat_lit 0) (kRange g30 [(nat_lit 31), (nat_lit 32)] q238 q239))) (kSeq (kSeq (oSet (xMove g9) p37 
(oSet (xNil g37) p38 
(oSet (xLook (lkFieldAddr (nat_lit 0) g38)) p39 
(oSet (xLook (lkFieldAddr (nat_lit 1) g39)) p40 
(oSet (xLook (lkLoad1 g40)) p41 
(oSet (xLook (lkEq true .int g41 q6)) p42 
oEnd)))))) (kCond g42 (kSeq (kDraw 
(dLook (nat_lit 0) [] [] (lkMove g9) p43 
(dTurn (nat_lit 1) [] [] false (xNil g43) p44 
(dLook (nat_lit 2) [] [] (lkFieldAddr (nat_lit 0) g44) p45 
(dLook (nat_lit 3) [] [] (lkFieldAddr (nat_lit 1) g45) p46 
(dLook (nat_lit 4) [] [] (lkLoad1 g46) p47 
(dLook (nat_lit 5) [] [] (lkMove q18) p4 
(dLook (nat_lit 6) [] [] (lkMove q18) p5 
(dLook (nat_lit 7) [] [] (lkMove g47) p6 (dEnd [(nat_lit 43), (nat_lit 44), (nat_lit 45), (nat_lit 46), (nat_lit 47), (nat_lit 4), (nat_lit 5), (nat_lit 6)])))))))))) kRet) kSkip)) (kSeq (kDraw 
(dLook (nat_lit 0) [] [] (lkLoad1 g10) p48 
(dLook (nat_lit 1) [] [] (lkMove g9) p49 
(dTurn (nat_lit 2) [] [] false (xNil g49) p50 
(dLook (nat_lit 3) [] [] (lkFieldAddr (nat_lit 0) g50) p51 
(dLook (nat_lit 4) [] [] (lkFieldAddr (nat_lit 0) g51) p52 
(dLook (nat_lit 5) [] [] (lkLoad1 g52) p53 
(dLook (nat_lit 6) [] [] (lkMove g48) p4 
(dLook (nat_lit 7) [] [] (lkMove g53) p5 
(dLook (nat_lit 8) [] [] (lkMove q6) p6 (dEnd [(nat_lit 48), (nat_lit 49), (nat_lit 50), (nat_lit 51), (nat_lit 52), (nat_lit 53), (nat_lit 4), (nat_lit 5), (nat_lit 6)]))))))))))) kRet))))))))⟩
noncomputable def k99 : KFun := ⟨[rTmp (nat_lit 2) g2], (kSeq (oSet (xMove q18) p2 
oEnd) (kSeq (oSet (xMove q18) p3 
oEnd) (kSeq (kSeq (oSet (xMove g0) p6 
(oSet (xLook (lkLen .sl g6)) p7 
(oSet (xMove q6) p8 
oEnd))) (kBlock (nat_lit 0) (kLoop (kSeq (oSet (xLook (lkBin .lss g8 g7)) p9 
oEnd) (kSeq (kCond g9 kSkip (kExit (nat_lit 0))) (kSeq (kBlock (nat_lit 1) (kSeq (oSet (xLook (lkIxSl (nat_lit 67) g6 g8)) p10 
(oSet (xLook (lkLoadN (nat_lit 67) g10)) p11 
(oSet (xTurn (tnAlloc q14)) p5 
(oDo (xTurn (tnStore (nat_lit 67) g5 g11)) 
oEnd)))) (oSet (xMove g3) p12 
(oSet (xLook (lkLoadN (nat_lit 67) g5)) p13 
(oSet (xCall q110 [g13]) p14 
(oSet (xTurn (tnBuildSlice q14 [((nat_lit 0), (nat_lit 67), g14)] (nat_lit 1))) p15 
(oSet (xTurn (tnAppend (nat_lit 67) g12 g15)) p16 
(oSet (xMove g16) p3 
oEnd)))))))) (oSet (xLook (lkBin .add g8 q16)) p17 
(oSet (xMove g17) p8 
oEnd)))))))) (kSeq (oSet (xMove g3) p18 
(oSet (xMove g18) p2 
oEnd)) kRet))))⟩
def q240 : List Value := [(.bool false), (.slice none (nat_lit 0) (nat_lit 0)), (.int .i64 (.ofNat (nat_lit 0))), (.int .i64 (.ofNat (nat_lit 0)))]
noncomputable def k100 : KFun := ⟨[rTmp (nat_lit 0) g0], (kSeq (oSet (xMove q5) p0 
oEnd) (kSeq (oSet (xLook (lkBuild q240 [((nat_lit 0), (nat_lit 1), q2)])) p1 
(oSet (xLook (lkBuild q240 [((nat_lit 0), (nat_lit 4), g1)])) p2 
(oSet (xTurn (tnBox g2)) p3 
(oSet (xMove g3) p0 
oEnd)))) kRet))⟩
def q241 : OpdF := kC (.func (.func (nat_lit 187)) ⟨[]⟩ ⟨[]⟩)
def q242 : OpdF := kC (.int .i64 (.ofNat (nat_lit 127)))
def q243 : OpdF := kC (.int .i64 (.ofNat (nat_lit 128)))
def q244 : List Value := [(.int .u8 (.ofNat (nat_lit 0)))]
def q245 : OpdF := kC (.int .u64 (.ofNat (nat_lit 7)))
noncomputable def k101 : KFun := ⟨[], (kSeq (kSeq (oSet (xMove g0) p4 
(oSet (xCall q241 [g4]) p5 
oEnd)) (kCond g5 kRet kSkip)) (kSeq (kSeq (oSet (xMove g1) p6 
(oSet (xLook (lkBin .lss g6 q6)) p7 
oEnd)) (kCond g7 (kSeq (oSet (xMove g0) p8 
(oSet (xNil g8) p9 
(oSet (xLook (lkFieldAddr (nat_lit 0) g9)) p10 
(oSet (xLook (lkFieldAddr (nat_lit 2) g10)) p11 
(oSet (xLook (lkFieldAddr (nat_lit 0) g11)) p12 
(oDo (xTurn (tnStore (nat_lit 1) g12 q77)) 
oEnd)))))) kRet) kSkip)) (kSeq (kBlock (nat_lit 0) (kLoop (kSeq (kSeq (oSet (xMove g1) p13 
(oSet (xLook (lkBin .gtr g13 q242)) p14 
oEnd)) (kCond g14 kSkip (kExit (nat_lit 0)))) (kSeq (kBlock (nat_lit 1) (oSet (xMove g0) p17 
(oSet (xMove g0) p18 
(oSet (xNil g18) p19 
(oSet (xLook (lkFieldAddr (nat_lit 0) g19)) p20 
(oSet (xLook (lkFieldAddr (nat_lit 1) g20)) p21 
(oSet (xLook (lkLoad1 g21)) p22 
(oSet (xMove g1) p23 
(oSet (xLook (lkBin .and g23 q242)) p24 
(oSet (xLook (lkBin .or g24 q243)) p25 
(oSet (xLook (lkIntTo .u8 g25)) p26 
(oSet (xTurn (tnBuildSlice q244 [((nat_lit 0), (nat_lit 1), g26)] (nat_lit 1))) p27 
(oSet (xTurn (tnAppend (nat_lit 1) g22 g27)) p28 
(oSet (xNil g17) p29 
(oSet (xLook (lkFieldAddr (nat_lit 0) g29)) p30 
(oSet (xLook (lkFieldAddr (nat_lit 1) g30)) p31 
(oDo (xTurn (tnStore (nat_lit 1) g31 g28)) 
oEnd))))))))))))))))) (oSet (xMove g1) p15 
(oSet (xLook (lkBin .shr g15 q245)) p16 
(oSet (xMove g16) p1 
oEnd))))))) (oSet (xMove g0) p32 
(oSet (xMove g0) p33 
(oSet (xNil g33) p34 
(oSet (xLook (lkFieldAddr (nat_lit 0) g34)) p35 
(oSet (xLook (lkFieldAddr (nat_lit 1) g35)) p36 
(oSet (xLook (lkLoad1 g36)) p37 
(oSet (xMove g1) p38 
(oSet (xLook (lkIntTo .u8 g38)) p39 
(oSet (xTurn (tnBuildSlice q244 [((nat_lit 0), (nat_lit 1), g39)] (nat_lit 1))) p40 
(oSet (xTurn (tnAppend (nat_lit 1) g37 g40)) p41 
(oSet (xNil g32) p42 
(oSet (xLook (lkFieldAddr (nat_lit 0) g42)) p43 
(oSet (xLook (lkFieldAddr (nat_lit 1) g43)) p44 
(oDo (xTurn (tnStore (nat_lit 1) g44 g41)) 
oEnd)))))))))))))))))⟩
noncomputable def k102 : KFun := ⟨[], (kSeq (kSeq (oSet (xMove g0) p4 
(oSet (xCall q241 [g4]) p5 
oEnd)) (kCond g5 kRet kSkip)) (kSeq (oSet (xMove g0) p6 
(oSet (xMove g1) p7 
(oSet (xLook (lkLen .str g7)) p8 
(oSet (xCall q123 [g6, g8]) p9 
oEnd)))) (oSet (xMove g0) p10 
(oSet (xMove g0) p11 
(oSet (xNil g11) p12 
(oSet (xLook (lkFieldAddr (nat_lit 0) g12)) p13 
(oSet (xLook (lkFieldAddr (nat_lit 1) g13)) p14 
(oSet (xLook (lkLoad1 g14)) p15 
(oSet (xMove g1) p16 
(oSet (xTurn (tnAppend (nat_lit 1) g15 g16)) p17 
(oSet (xNil g10) p18 
(oSet (xLook (lkFieldAddr (nat_lit 0) g18)) p19 
(oSet (xLook (lkFieldAddr (nat_lit 1) g19)) p20 
(oDo (xTurn (tnStore (nat_lit 1) g20 g17)) 
oEnd))))))))))))))⟩
noncomputable def k104 : KFun := ⟨[rTmp (nat_lit 2) g2, rTmp (nat_lit 3) g3], (kSeq (oSet (xMove q18) p2 
(oSet (xMove q6) p3 
oEnd)) (kSeq (kBlock (nat_lit 0) (kSeq (oSet (xMove g0) p5 
(oSet (xCall q241 [g5]) p6 
(oSet (xMove g6) p4 
oEnd))) (kCond g4 (kSeq (oSet (xMove q18) p2 
(oSet (xMove q16) p3 
oEnd)) kRet) (kSeq (oSet (xMove g0) p8 
(oSet (xNil g8) p9 
(oSet (xLook (lkFieldAddr (nat_lit 0) g9)) p10 
(oSet (xLook (lkFieldAddr (nat_lit 2) g10)) p11 
(oSet (xLook (lkFieldAddr (nat_lit 0) g11)) p12 
(oSet (xLook (lkLoad1 g12)) p13 
(oSet (xLook (lkEq true .int g13 q6)) p14 
(oSet (xMove g14) p7 
oEnd)))))))) (kCond g7 (kSeq (kDraw 
(dLook (nat_lit 0) [] [] (lkMove g0) p15 
(dTurn (nat_lit 1) [] [] false (xNil g15) p16 
(dLook (nat_lit 2) [] [] (lkFieldAddr (nat_lit 0) g16) p17 
(dLook (nat_lit 3) [] [] (lkFieldAddr (nat_lit 2) g17) p18 
(dLook (nat_lit 4) [] [] (lkFieldAddr (nat_lit 0) g18) p19 
(dLook (nat_lit 5) [] [] (lkLoad1 g19) p20 
(dLook (nat_lit 6) [] [] (lkMove q18) p2 
(dLook (nat_lit 7) [] [] (lkMove g20) p3 (dEnd [(nat_lit 15), (nat_lit 16), (nat_lit 17), (nat_lit 18), (nat_lit 19), (nat_lit 20), (nat_lit 2), (nat_lit 3)])))))))))) kRet) kSkip))))) (kSeq (oSet (xTurn (tnBuildSlice [] [] (nat_lit 0))) p21 
(oSet (xMove g0) p22 
(oSet (xNil g22) p23 
(oSet (xLook (lkFieldAddr (nat_lit 0) g23)) p24 
(oSet (xLook (lkFieldAddr (nat_lit 1) g24)) p25 
(oSet (xLook (lkLoad1 g25)) p26 
(oSet (xTurn (tnAppend (nat_lit 1) g21 g26)) p27 
(oSet (xMove g27) p2 
(oSet (xMove q6) p3 
oEnd))))))))) kRet)))⟩
def q246 : OpdF := kC (.func (.func (nat_lit 188)) ⟨[]⟩ ⟨[]⟩)
noncomputable def k105 : KFun := ⟨[rTmp (nat_lit 2) g2], (kSeq (oSet (xMove q6) p2 
oEnd) (kSeq (kBlock (nat_lit 0) (kSeq (oSet (xMove g0) p4 
(oSet (xCall q246 [g4]) p5 
(oSet (xMove g5) p3 
oEnd))) (kCond g3 (kSeq (oSet (xMove q16) p2 
oEnd) kRet) (kSeq (oSet (xMove g0) p7 
(oSet (xNil g7) p8 
(oSet (xLook (lkFieldAddr (nat_lit 39) g8)) p9 
(oSet (xLook (lkLoad1 g9)) p10 
(oSet (xMove g10) p6 
oEnd))))) (kCond g6 (kSeq (oSet (xMove q140) p2 
oEnd) kRet) kSkip))))) (kSeq (oSet (xMove q6) p2 
oEnd) kRet)))⟩
def q247 : OpdF := kC (.func (.func (nat_lit 189)) ⟨[]⟩ ⟨[]⟩)
def q248 : OpdF := kC (.func (.func (nat_lit 190)) ⟨[]⟩ ⟨[]⟩)
def q249 : OpdF := kC (.func (.func (nat_lit 191)) ⟨[]⟩ ⟨[]⟩)
noncomputable def k106 : KFun := ⟨[rCellN (nat_lit 2) g2 (nat_lit 32)], (kSeq (oSet (xTurn (tnAlloc q91)) p2 
oEnd) (kSeq (oSet (xCall q247 []) p4 
(oSet (xMove g4) p3 
oEnd)) (kSeq (oSet (xMove g3) p5 
(oSet (xMove g0) p6 
(oSet (xCall q248 [g5, g6]) p7 
oEnd))) (kSeq (oSet (xMove g3) p8 
(oSet (xCall q249 [g8]) p9 
(oDo (xTurn (tnStore (nat_lit 32) g2 g9)) 
oEnd))) kRet))))⟩
def q250 : OpdF := kC (.func (.func (nat_lit 192)) ⟨[]⟩ ⟨[]⟩)
noncomputable def k107 : KFun := ⟨[rTmp (nat_lit 4) g4], (kSeq (oSet (xTurn (tnBox g1)) p3 
(oSet (xMove q6) p4 
oEnd)) (kSeq (oSet (xMove g0) p5 
(oSet (xNil g5) p6 
(oSet (xLook (lkFieldAddr (nat_lit 0) g6)) p7 
(oSet (xLook (lkLoad1 g7)) p8 
(oSet (xLook (lkMkFunc (.func (nat_lit 193)) [] [g3])) p9 
(oSet (xCall q250 [g8, g9]) p10 
(oSet (xMove g10) p4 
oEnd))))))) kRet))⟩
def q251 : OpdF := kC (.func (.func (nat_lit 195)) ⟨[]⟩ ⟨[]⟩)
def q252 : OpdF := kC (.func (.func (nat_lit 194)) ⟨[]⟩ ⟨[]⟩)
noncomputable def k108 : KFun := ⟨[rTmp (nat_lit 4) g4, rTmp (nat_lit 5) g5], (kSeq (oSet (xMove q6) p4 
(oSet (xMove q6) p5 
oEnd)) (kSeq (oSet (xMove g0) p10 
(oSet (xCall q251 [g10]) p11 
(oSet (xMove g1) p12 
(oSet (xCall q252 [g11, g12]) p13 
(oSet (xMove g13) p9 
(oSet (xLook (lkExtract (nat_lit 0) g9)) p14 
(oSet (xLook (lkExtract (nat_lit 1) g9)) p15 
(oSet (xLook (lkExtract (nat_lit 2) g9)) p16 
(oSet (xMove g14) p6 
(oSet (xMove g15) p7 
(oSet (xMove g16) p8 
oEnd))))))))))) (kSeq (kSeq (oSet (xMove g8) p17 
(oSet (xLook (lkEq true .int g17 q6)) p18 
oEnd)) (kCond g18 (kSeq (oSet (xMove q6) p4 
(oSet (xMove q38) p5 
oEnd)) kRet) kSkip)) (kSeq (oSet (xMove g6) p19 
(oSet (xMove g19) p4 
(oSet (xMove q6) p5 
oEnd))) kRet))))⟩
def q253 : OpdF := kC (.int .i64 (.ofNat (nat_lit 37)))
def q254 : OpdF := kC (.int .i64 (.ofNat (nat_lit 64)))
noncomputable def k109 : KFun := ⟨[rTmp (nat_lit 2) g2], (kSeq (oSet (xMove q6) p2 
oEnd) (kSeq (kSeq (oSet (xMove g0) p3 
(oSet (xLook (lkBin .lss g3 q6)) p4 
(oSet (xMove g4) p5 
(oSetIf (wantF g5) (xMove g0) p6 
(oSetIf (wantF g5) (xLook (lkBin .gtr g6 q128)) p7 
(oSet (xLook (lkPick g5 q2 g7)) p8 
oEnd)))))) (kCond g8 (kSeq (oSet (xMove q6) p2 
oEnd) kRet) kSkip)) (kSeq (oSet (xMove g0) p9 
(oSet (xLook (lkBin .add q253 g9)) p10 
(oSet (xLook (lkBin .add g10 q254)) p11 
(oSet (xLook (lkBin .sub g11 q16)) p12 
(oSet (xLook (lkBin .quo g12 q254)) p13 
(oSet (xMove g13) p2 
oEnd)))))) kRet)))⟩
noncomputable def k110 : KFun := ⟨[rTmp (nat_lit 2) g2], (kSeq (oSet (xMove q18) p2 
oEnd) (kSeq (kSeq (oSet (xMove g0) p3 
(oSet (xLook (lkEq false .slice g3 q18)) p4 
oEnd)) (kCond g4 (kSeq (oSet (xMove q18) p2 
oEnd) kRet) kSkip)) (kSeq (oSet (xTurn (tnBuildSlice [] [] (nat_lit 0))) p5 
(oSet (xMove g0) p6 
(oSet (xTurn (tnAppend (nat_lit 1) g5 g6)) p7 
(oSet (xMove g7) p2 
oEnd)))) kRet)))⟩
noncomputable def k111d0 : KD := 
(dLook (nat_lit 16) [] [(nat_lit 6), (nat_lit 14)] (lkPick g28 q2 g34) p35 
(dLook (nat_lit 17) [] [(nat_lit 6), (nat_lit 14)] (lkMove g35) p4 (dEnd [(nat_lit 19), (nat_lit 20), (nat_lit 21), (nat_lit 22), (nat_lit 23), (nat_lit 24), (nat_lit 25), (nat_lit 26), (nat_lit 27), (nat_lit 28), (nat_lit 29), (nat_lit 30), (nat_lit 31), (nat_lit 32), (nat_lit 33), (nat_lit 34), (nat_lit 35), (nat_lit 4)])))
noncomputable def k111d1 : KD := 
(dIf [(nat_lit 6), (nat_lit 14)] (wantF g28) p34 (dLook (nat_lit 15) [] [(nat_lit 6), (nat_lit 14)] (lkBin .geq g33 q6) p34 k111d0) k111d0)
noncomputable def k111d2 : KD := 
(dIf [(nat_lit 6)] (wantF g28) p33 (dTurn (nat_lit 14) [] [(nat_lit 6)] true (xCall q130 [g31, g32]) p33 k111d1) k111d1)
noncomputable def k111d3 : KD := 
(dIf [(nat_lit 6)] (wantF g28) p32 (dLook (nat_lit 13) [] [(nat_lit 6)] (lkLoadN (nat_lit 32) g3) p32 k111d2) k111d2)
noncomputable def k111d4 : KD := 
(dIf [(nat_lit 6)] (wantF g28) p31 (dLook (nat_lit 12) [] [(nat_lit 6)] (lkFieldAddr (nat_lit 0) g30) p31 k111d3) k111d3)
noncomputable def k111d5 : KD := 
(dIf [(nat_lit 6)] (wantF g28) p30 (dTurn (nat_lit 11) [] [(nat_lit 6)] false (xNil g29) p30 k111d4) k111d4)
noncomputable def k111d6 : KD := 
(dLook (nat_lit 8) [] [(nat_lit 6)] (lkPick g20 g26 q0) p27 
(dLook (nat_lit 9) [] [(nat_lit 6)] (lkMove g27) p28 
(dIf [(nat_lit 6)] (wantF g28) p29 (dLook (nat_lit 10) [] [(nat_lit 6)] (lkMove g0) p29 k111d5) k111d5)))
def q255 : OpdF := kC (.func (.func (nat_lit 196)) ⟨[]⟩ ⟨[]⟩)
noncomputable def k111d7 : KD := 
(dIf [(nat_lit 6)] (wantT g20) p26 (dLook (nat_lit 7) [] [(nat_lit 6)] (lkUn .not g25) p26 k111d6) k111d6)
noncomputable def k111d8 : KD := 
(dIf [] (wantT g20) p25 (dTurn (nat_lit 6) [] [] true (xCall q255 [g23, g24]) p25 k111d7) k111d7)
noncomputable def k111d9 : KD := 
(dIf [] (wantT g20) p24 (dLook (nat_lit 5) [] [] (lkLoadN (nat_lit 32) g3) p24 k111d8) k111d8)
noncomputable def k111d10 : KD := 
(dIf [] (wantT g20) p23 (dLook (nat_lit 4) [] [] (lkFieldAddr (nat_lit 0) g22) p23 k111d9) k111d9)
noncomputable def k111d11 : KD := 
(dIf [] (wantT g20) p22 (dTurn (nat_lit 3) [] [] false (xNil g21) p22 k111d10) k111d10)
noncomputable def k111 : KFun := ⟨[rTmp (nat_lit 4) g4], (kSeq (oSet (xTurn (tnBox g1)) p3 
(oSet (xMove q0) p4 
oEnd)) (kSeq (kSeq (oSet (xMove g0) p7 
(oSet (xCall q127 [g7]) p8 
(oSet (xLook (lkEq true .int g8 q6)) p9 
oEnd))) (kCond g9 (kSeq (oSet (xMove q0) p4 
oEnd) kRet) kSkip)) (kSeq (kDraw 
(dLook (nat_lit 0) [] [] (lkMove g0) p11 
(dTurn (nat_lit 1) [] [] false (xNil g11) p12 
(dLook (nat_lit 2) [] [] (lkFieldAddr (nat_lit 38) g12) p13 
(dLook (nat_lit 3) [] [] (lkLoad1 g13) p14 
(dLook (nat_lit 4) [] [] (lkLoadN (nat_lit 32) g3) p15 
(dLook (nat_lit 5) [] [] (lkLookup (.many (nat_lit 32) .u8) (.agg ⟨[(.int .i64 (.ofNat (nat_lit 0))), (.int .i64 (.ofNat (nat_lit 0)))]⟩) true g14 g15) p16 
(dLook (nat_lit 6) [] [] (lkMove g16) p10 
(dLook (nat_lit 7) [] [] (lkExtract (nat_lit 0) g10) p17 
(dLook (nat_lit 8) [] [] (lkExtract (nat_lit 1) g10) p18 
(dTurn (nat_lit 9) [] [] false (xTurn (tnAlloc q66)) p5 
(dTurn (nat_lit 10) [] [] true (xTurn (tnStore (nat_lit 2) g5 g17)) noDst 
(dLook (nat_lit 11) [] [(nat_lit 10)] (lkMove g18) p6 (dEnd [(nat_lit 11), (nat_lit 12), (nat_lit 13), (nat_lit 14), (nat_lit 15), (nat_lit 16), (nat_lit 10), (nat_lit 17), (nat_lit 18), (nat_lit 5), (nat_lit 6)])))))))))))))) (kSeq (kDraw 
(dLook (nat_lit 0) [] [] (lkMove g6) p19 
(dLook (nat_lit 1) [] [] (lkMove g19) p20 
(dIf [] (wantT g20) p21 (dLook (nat_lit 2) [] [] (lkMove g0) p21 k111d11) k111d11)))) kRet))))⟩
def q262 : List Value := [(.slice none (nat_lit 0) (nat_lit 0)), (.map none)]
noncomputable def k115 : KFun := ⟨[rCellN (nat_lit 0) g0 (nat_lit 2)], (kSeq (oSet (xTurn (tnAlloc q262)) p0 
oEnd) (kSeq (oSet (xTurn (tnMkMap (.many (nat_lit 32) .u8))) p1 
(oSet (xLook (lkBuild q262 [((nat_lit 1), (nat_lit 1), g1)])) p2 
(oDo (xTurn (tnStore (nat_lit 2) g0 g2)) 
oEnd))) kRet))⟩
noncomputable def k116 : KFun := ⟨[rCellN (nat_lit 2) g2 (nat_lit 32)], (kSeq (oSet (xTurn (tnAlloc q91)) p2 
oEnd) (kSeq (kSeq (oSet (xMove g0) p3 
(oSet (xCall q127 [g3]) p4 
(oSet (xLook (lkEq true .int g4 q6)) p5 
oEnd))) (kCond g5 (kSeq (oSet (xLook (lkBuild q91 [])) p6 
(oDo (xTurn (tnStore (nat_lit 32) g2 g6)) 
oEnd)) kRet) kSkip)) (kSeq (oSet (xMove g0) p7 
(oSet (xNil g7) p8 
(oSet (xLook (lkFieldAddr (nat_lit 4) g8)) p9 
(oSet (xLook (lkLoadN (nat_lit 32) g9)) p10 
(oDo (xTurn (tnStore (nat_lit 32) g2 g10)) 
oEnd))))) kRet)))⟩
def q263 : OpdF := kC (.func (.func (nat_lit 202)) ⟨[]⟩ ⟨[]⟩)
def q264 : OpdF := kC (.func (.func (nat_lit 203)) ⟨[]⟩ ⟨[]⟩)
def q265 : OpdF := kC (.func (.func (nat_lit 204)) ⟨[]⟩ ⟨[]⟩)
noncomputable def k117d0 : KD := 
(dLook (nat_lit 18) [] [(nat_lit 15)] (lkPick g83 q2 g87) p88 (dEnd [(nat_lit 70), (nat_lit 71), (nat_lit 72), (nat_lit 73), (nat_lit 74), (nat_lit 75), (nat_lit 76), (nat_lit 77), (nat_lit 78), (nat_lit 79), (nat_lit 80), (nat_lit 81), (nat_lit 82), (nat_lit 83), (nat_lit 84), (nat_lit 85), (nat_lit 86), (nat_lit 87), (nat_lit 88)]))
noncomputable def k117d1 : KD := 
(dIf [(nat_lit 15)] (wantF g83) p87 (dLook (nat_lit 17) [] [(nat_lit 15)] (lkEq true (.flat [(.int .u8), (.int .u8), (.int .u8), (.int .u8), (.int .u8), (.int .u8), (.int .u8), (.int .u8), (.int .u8), (.int .u8), (.int .u8), (.int .u8), (.int .u8), (.int .u8), (.int .u8), (.int .u8), (.int .u8), (.int .u8), (.int .u8), (.int .u8), (.int .u8), (.int .u8), (.int .u8), (.int .u8), (.int .u8), (.int .u8), (.int .u8), (.int .u8), (.int .u8), (.int .u8), (.int .u8), (.int .u8)]) g85 g86) p87 k117d0) k117d0)
noncomputable def k117d2 : KD := 
(dIf [] (wantF g83) p86 (dLook (nat_lit 16) [(nat_lit 15)] [] (lkLoadN (nat_lit 32) g3) p86 k117d1) k117d1)
noncomputable def k117d3 : KD := 
(dIf [] (wantF g83) p85 (dTurn (nat_lit 15) [] [] true (xCall q129 [g84]) p85 k117d2) k117d2)
noncomputable def k117d4 : KD := 
(dLook (nat_lit 12) [] [] (lkPick g76 q2 g81) p82 
(dLook (nat_lit 13) [] [] (lkMove g82) p83 
(dIf [] (wantF g83) p84 (dLook (nat_lit 14) [] [] (lkMove g12) p84 k117d3) k117d3)))
noncomputable def k117d5 : KD := 
(dIf [] (wantF g76) p81 (dLook (nat_lit 11) [] [] (lkEq true .int g78 g80) p81 k117d4) k117d4)
noncomputable def k117d6 : KD := 
(dIf [] (wantF g76) p80 (dLook (nat_lit 10) [] [] (lkLoad1 g79) p80 k117d5) k117d5)
noncomputable def k117d7 : KD := 
(dIf [] (wantF g76) p79 (dLook (nat_lit 9) [] [] (lkFieldAddr (nat_lit 1) g8) p79 k117d6) k117d6)
noncomputable def k117d8 : KD := 
(dIf [] (wantF g76) p78 (dLook (nat_lit 8) [] [] (lkLen .sl g77) p78 k117d7) k117d7)
noncomputable def k117d9 : KD := 
(dLook (nat_lit 5) [] [] (lkPick g72 q2 g74) p75 
(dLook (nat_lit 6) [] [] (lkMove g75) p76 
(dIf [] (wantF g76) p77 (dLook (nat_lit 7) [] [] (lkMove g12) p77 k117d8) k117d8)))
noncomputable def k117d10 : KD := 
(dIf [] (wantF g72) p74 (dLook (nat_lit 4) [] [] (lkEq true .int g73 q16) p74 k117d9) k117d9)
noncomputable def k117 : KFun := ⟨[rTmp (nat_lit 4) g4, rTmp (nat_lit 5) g5], (kSeq (oSet (xTurn (tnBox g1)) p3 
(oSet (xMove q18) p4 
(oSet (xMove q6) p5 
oEnd))) (kSeq (kSeq (oSet (xMove g0) p13 
(oSet (xCall q127 [g13]) p14 
(oSet (xMove g14) p6 
oEnd))) (kSeq (oSet (xMove g6) p15 
(oSet (xLook (lkEq true .int g15 q6)) p16 
oEnd)) (kCond g16 (kSeq (oSet (xMove g6) p17 
(oSet (xMove q18) p4 
(oSet (xMove g17) p5 
oEnd))) kRet) kSkip))) (kSeq (kSeq (oSet (xMove g0) p18 
(oSet (xLook (lkLoadN (nat_lit 32) g3)) p19 
(oSet (xCall q136 [g18, g19]) p20 
(oSet (xLook (lkUn .not g20)) p21 
oEnd)))) (kCond g21 (kSeq (oSet (xMove q18) p4 
(oSet (xMove q63) p5 
oEnd)) kRet) kSkip)) (kSeq (kSeq (kDraw 
(dLook (nat_lit 0) [] [] (lkMove g0) p22 
(dTurn (nat_lit 1) [] [] false (xNil g22) p23 
(dLook (nat_lit 2) [] [] (lkFieldAddr (nat_lit 0) g23) p24 
(dLook (nat_lit 3) [] [] (lkLoadN (nat_lit 32) g3) p25 
(dTurn (nat_lit 4) [] [] true (xCall q130 [g24, g25]) p26 
(dLook (nat_lit 5) [] [(nat_lit 4)] (lkMove g26) p7 (dEnd [(nat_lit 22), (nat_lit 23), (nat_lit 24), (nat_lit 25), (nat_lit 26), (nat_lit 7)])))))))) (kSeq (oSet (xMove g7) p27 
(oSet (xLook (lkBin .geq g27 q6)) p28 
oEnd)) (kCond g28 (kSeq (oSet (xTurn (tnBuildSlice [] [] (nat_lit 0))) p29 
(oSet (xMove g0) p30 
(oSet (xNil g30) p31 
(oSet (xLook (lkFieldAddr (nat_lit 0) g31)) p32 
(oSet (xLook (lkFieldAddr (nat_lit 0) g32)) p33 
(oSet (xLook (lkLoad1 g33)) p34 
(oSet (xMove g7) p35 
(oSet (xLook (lkIxSl (nat_lit 35) g34 g35)) p36 
(oSet (xLook (lkFieldAddr (nat_lit 34) g36)) p37 
(oSet (xLook (lkLoad1 g37)) p38 
(oSet (xTurn (tnAppend (nat_lit 1) g29 g38)) p39 
(oSet (xMove g39) p4 
(oSet (xMove q6) p5 
oEnd))))))))))))) kRet) kSkip))) (kSeq (kDraw 
(dLook (nat_lit 0) [] [] (lkMove g0) p40 
(dTurn (nat_lit 1) [] [] false (xNil g40) p41 
(dLook (nat_lit 2) [] [] (lkFieldAddr (nat_lit 38) g41) p42 
(dLook (nat_lit 3) [] [] (lkLoad1 g42) p43 
(dLook (nat_lit 4) [] [] (lkLoadN (nat_lit 32) g3) p44 
(dLook (nat_lit 5) [] [] (lkLookup (.many (nat_lit 32) .u8) (.agg ⟨[(.int .i64 (.ofNat (nat_lit 0))), (.int .i64 (.ofNat (nat_lit 0)))]⟩) false g43 g44) p45 
(dTurn (nat_lit 6) [] [] false (xTurn (tnAlloc q66)) p8 
(dTurn (nat_lit 7) [] [] true (xTurn (tnStore (nat_lit 2) g8 g45)) noDst (dEnd [(nat_lit 40), (nat_lit 41), (nat_lit 42), (nat_lit 43), (nat_lit 44), (nat_lit 45), (nat_lit 8)])))))))))) (kSeq (kDraw 
(dLook (nat_lit 0) [] [] (lkMove g0) p47 
(dTurn (nat_lit 1) [] [] false (xNil g47) p48 
(dLook (nat_lit 2) [] [] (lkFieldAddr (nat_lit 2) g48) p49 
(dLook (nat_lit 3) [] [] (lkLoad1 g49) p50 
(dLook (nat_lit 4) [] [] (lkFieldAddr (nat_lit 0) g8) p51 
(dLook (nat_lit 5) [] [] (lkLoad1 g51) p52 
(dLook (nat_lit 6) [] [] (lkLoadN (nat_lit 2) g8) p53 
(dTurn (nat_lit 7) [(nat_lit 3), (nat_lit 5)] [] true (xCall q264 [g53]) p54 
(dTurn (nat_lit 8) [] [(nat_lit 7)] true (xCall q263 [g50, g52, g54]) p55 
(dLook (nat_lit 9) [] [(nat_lit 7), (nat_lit 8)] (lkMove g55) p46 
(dLook (nat_lit 10) [] [(nat_lit 7), (nat_lit 8)] (lkExtract (nat_lit 0) g46) p56 
(dLook (nat_lit 11) [] [(nat_lit 7), (nat_lit 8)] (lkExtract (nat_lit 1) g46) p57 
(dLook (nat_lit 12) [] [(nat_lit 7), (nat_lit 8)] (lkMove g56) p9 
(dLook (nat_lit 13) [] [(nat_lit 7), (nat_lit 8)] (lkMove g57) p10 (dEnd [(nat_lit 47), (nat_lit 48), (nat_lit 49), (nat_lit 50), (nat_lit 51), (nat_lit 52), (nat_lit 53), (nat_lit 54), (nat_lit 55), (nat_lit 46), (nat_lit 56), (nat_lit 57), (nat_lit 9), (nat_lit 10)])))))))))))))))) (kSeq (kSeq (oSet (xMove g10) p58 
(oSet (xLook (lkEq true .int g58 q6)) p59 
oEnd)) (kCond g59 (kSeq (oSet (xMove g0) p60 
(oSet (xNil g60) p61 
(oSet (xLook (lkFieldAddr (nat_lit 39) g61)) p62 
(oDo (xTurn (tnStore (nat_lit 1) g62 q2)) 
oEnd)))) (kSeq (oSet (xMove g10) p63 
(oSet (xMove q18) p4 
(oSet (xMove g63) p5 
oEnd))) kRet)) kSkip)) (kSeq (oSet (xMove g9) p65 
(oSet (xCall q265 [g65]) p66 
(oSet (xMove g66) p64 
(oSet (xLook (lkExtract (nat_lit 0) g64)) p67 
(oSet (xLook (lkExtract (nat_lit 1) g64)) p68 
(oSet (xLook (lkExtract (nat_lit 2) g64)) p69 
(oSet (xMove g67) p11 
(oSet (xMove g68) p12 
(oSet (xMove g69) p10 
oEnd))))))))) (kSeq (kSeq (kDraw 
(dLook (nat_lit 0) [] [] (lkMove g10) p70 
(dLook (nat_lit 1) [] [] (lkEq true .int g70 q6) p71 
(dLook (nat_lit 2) [] [] (lkMove g71) p72 
(dIf [] (wantF g72) p73 (dLook (nat_lit 3) [] [] (lkMove g11) p73 k117d10) k117d10))))) (kCond g88 (kSeq (oSet (xMove q18) p4 
(oSet (xMove q67) p5 
oEnd)) kRet) kSkip)) (kSeq (oSet (xMove g12) p89 
(oSet (xMove g89) p4 
(oSet (xMove q6) p5 
oEnd))) kRet))))))))))⟩
def q267 : OpdF := kC (.func (.func (nat_lit 206)) ⟨[]⟩ ⟨[]⟩)
def q268 : List Value := [(.int .i64 (.ofNat (nat_lit 0))), (.int .i64 (.ofNat (nat_lit 0))), (.bool false)]
def q269 : OpdF := kC (.int .i64 (.negSucc (nat_lit 0)))
def q270 : List Value := [(.int .i64 (.ofNat (nat_lit 0))), (.int .i64 (.ofNat (nat_lit 0))), (.bool false), (.bool false), (.int .i64 (.ofNat (nat_lit 0))), (.map none), (.slice none (nat_lit 0) (nat_lit 0))]
noncomputable def k119 : KFun := ⟨[rTmp (nat_lit 2) g2, rTmp (nat_lit 3) g3], (kSeq (oSet (xMove q5) p2 
(oSet (xMove q6) p3 
oEnd)) (kSeq (kSeq (oSet (xMove g0) p4 
(oSet (xLook (lkBin .lss g4 q6)) p5 
(oSet (xMove g5) p6 
(oSetIf (wantF g6) (xMove g0) p7 
(oSetIf (wantF g6) (xLook (lkBin .gtr g7 q128)) p8 
(oSet (xLook (lkPick g6 q2 g8)) p9 
oEnd)))))) (kCond g9 (kSeq (oSet (xMove q5) p2 
(oSet (xMove q77) p3 
oEnd)) kRet) kSkip)) (kSeq (oSet (xLook (lkBuild q268 [((nat_lit 1), (nat_lit 1), q269)])) p10 
(oSet (xMove g0) p11 
(oSet (xTurn (tnMkMap (.one (.int .i64)))) p12 
(oSet (xLook (lkBuild q270 [((nat_lit 0), (nat_lit 3), g10), ((nat_lit 3), (nat_lit 1), q2), ((nat_lit 4), (nat_lit 1), g11), ((nat_lit 5), (nat_lit 1), g12)])) p13 
(oSet (xTurn (tnBox g13)) p14 
(oSet (xMove g14) p2 
(oSet (xMove q6) p3 
oEnd))))))) kRet)))⟩
def q271 : OpdF := kC (.func (.func (nat_lit 207)) ⟨[]⟩ ⟨[]⟩)
def q272 : OpdF := kC (.func (.func (nat_lit 208)) ⟨[]⟩ ⟨[]⟩)
def q273 : List Value := [(.slice none (nat_lit 0) (nat_lit 0)), (.map none), (.pointer none), (.int .i64 (.ofNat (nat_lit 0))), (.int .u8 (.ofNat (nat_lit 0))), (.int .u8 (.ofNat (nat_lit 0))), (.int .u8 (.ofNat (nat_lit 0))), (.int .u8 (.ofNat (nat_lit 0))), (.int .u8 (.ofNat (nat_lit 0))), (.int .u8 (.ofNat (nat_lit 0))), (.int .u8 (.ofNat (nat_lit 0))), (.int .u8 (.ofNat (nat_lit 0))), (.int .u8 (.ofNat (nat_lit 0))), (.int .u8 (.ofNat (nat_lit 0))), (.int .u8 (.ofNat (nat_lit 0))), (.int .u8 (.ofNat (nat_lit 0))), (.int .u8 (.ofNat (nat_lit 0))), (.int .u8 (.ofNat (nat_lit 0))), (.int .u8 (.ofNat (nat_lit 0))), (.int .u8 (.ofNat (nat_lit 0))), (.int .u8 (.ofNat (nat_lit 0))), (.int .u8 (.ofNat (nat_lit 0))), (.int .u8 (.ofNat (nat_lit 0))), (.int .u8 (.ofNat (nat_lit 0))), (.int .u8 (.ofNat (nat_lit 0))), (.int .u8 (.ofNat (nat_lit 0))), (.int .u8 (.ofNat (nat_lit 0))), (.int .u8 (.ofNat (nat_lit 0))), (.int .u8 (.ofNat (nat_lit 0))), (.int .u8 (.ofNat (nat_lit 0))), (.int .u8 (.ofNat (nat_lit 0))), (.int .u8 (.ofNat (nat_lit 0))), (.int .u8 (.ofNat (nat_lit 0))), (.int .u8 (.ofNat (nat_lit 0))), (.int .u8 (.ofNat (nat_lit 0))), (.int .u8 (.ofNat (nat_lit 0))), (.int .i64 (.ofNat (nat_lit 0))), (.int .i64 (.ofNat (nat_lit 0))), (.map none), (.bool false)]
def q274 : OpdF := kC (.func (.func (nat_lit 209)) ⟨[]⟩ ⟨[]⟩)
def q275 : OpdF := kC (.func (.func (nat_lit 210)) ⟨[]⟩ ⟨[]⟩)
def q276 : OpdF := kC (.func (.func (nat_lit 211)) ⟨[]⟩ ⟨[]⟩)
noncomputable def k120 : KFun := ⟨[rTmp (nat_lit 2) g2, rTmp (nat_lit 3) g3], (kSeq (oSet (xMove q5) p2 
(oSet (xMove q6) p3 
oEnd)) (kSeq (kSeq (oSet (xMove g0) p16 
(oSet (xCall q271 [g16, q6]) p17 
(oSet (xMove g17) p15 
(oSet (xLook (lkExtract (nat_lit 0) g15)) p18 
(oSet (xLook (lkExtract (nat_lit 1) g15)) p19 
(oSet (xMove g18) p4 
(oSet (xMove g19) p5 
oEnd))))))) (kSeq (oSet (xMove g5) p20 
(oSet (xLook (lkEq false .int g20 q16)) p21 
oEnd)) (kCond g21 (kSeq (oSet (xMove g5) p22 
(oSet (xMove q5) p2 
(oSet (xMove g22) p3 
oEnd))) kRet) kSkip))) (kSeq (kSeq (oSet (xMove g0) p23 
(oSet (xCall q272 [g23]) p24 
(oSet (xLook (lkBin .lss g24 q149)) p25 
oEnd))) (kCond g25 (kSeq (oSet (xMove q5) p2 
(oSet (xMove q38) p3 
oEnd)) kRet) kSkip)) (kSeq (oSet (xCall q142 []) p26 
(oSet (xMove g0) p27 
(oSet (xTurn (tnMkMap (.many (nat_lit 32) .u8))) p28 
(oSet (xLook (lkBuild q273 [((nat_lit 0), (nat_lit 2), g26), ((nat_lit 2), (nat_lit 1), g27), ((nat_lit 38), (nat_lit 1), g28)])) p29 
(oSet (xTurn (tnBox g29)) p30 
(oSet (xMove g30) p6 
oEnd)))))) (kSeq (oSet (xMove g0) p32 
(oSet (xCall q274 [g32]) p33 
(oSet (xMove g33) p31 
(oSet (xLook (lkExtract (nat_lit 0) g31)) p34 
(oSet (xLook (lkExtract (nat_lit 1) g31)) p35 
(oSet (xLook (lkExtract (nat_lit 2) g31)) p36 
(oSet (xTurn (tnAlloc q138)) p7 
(oDo (xTurn (tnStore (nat_lit 35) g7 g34)) 
(oSet (xMove g35) p8 
(oSet (xMove g36) p9 
oEnd)))))))))) (kSeq (kSeq (oSet (xMove g9) p37 
oEnd) (kBlock (nat_lit 0) (kSeq (oSet (xLook (lkEq false .int g37 q6)) p40 
(oSet (xMove g40) p39 
oEnd)) (kCond g39 kSkip (kSeq (oSet (xLook (lkEq false .int g37 q63)) p42 
(oSet (xMove g42) p41 
oEnd)) (kCond g41 (kSeq (oSet (xMove g6) p43 
(oSet (xMove g43) p2 
(oSet (xMove q6) p3 
oEnd))) kRet) (kSeq (oSet (xMove g9) p38 
(oSet (xMove q5) p2 
(oSet (xMove g38) p3 
oEnd))) kRet))))))) (kSeq (kDraw 
(dLook (nat_lit 0) [] [] (lkMove g6) p44 
(dLook (nat_lit 1) [] [] (lkMove g6) p45 
(dLook (nat_lit 2) [] [] (lkMove g6) p46 
(dLook (nat_lit 3) [] [] (lkFieldAddr (nat_lit 0) g7) p47 
(dLook (nat_lit 4) [] [] (lkLoad1 g47) p48 
(dLook (nat_lit 5) [] [] (lkFieldAddr (nat_lit 1) g7) p49 
(dLook (nat_lit 6) [] [] (lkLoadN (nat_lit 32) g49) p50 
(dLook (nat_lit 7) [] [] (lkFieldAddr (nat_lit 33) g7) p51 
(dLook (nat_lit 8) [] [] (lkLoad1 g51) p52 
(dLook (nat_lit 9) [] [] (lkFieldAddr (nat_lit 34) g7) p53 
(dLook (nat_lit 10) [] [] (lkLoad1 g53) p54 
(dLook (nat_lit 11) [] [] (lkBuild q66 [((nat_lit 0), (nat_lit 1), g52), ((nat_lit 1), (nat_lit 1), g54)]) p55 
(dTurn (nat_lit 12) [] [] false (xNil g44) p56 
(dLook (nat_lit 13) [] [] (lkFieldAddr (nat_lit 3) g56) p57 
(dTurn (nat_lit 14) [(nat_lit 6), (nat_lit 8), (nat_lit 10)] [] true (xTurn (tnStore (nat_lit 1) g57 g48)) noDst 
(dTurn (nat_lit 15) [] [(nat_lit 14)] false (xNil g45) p58 
(dLook (nat_lit 16) [] [(nat_lit 14)] (lkFieldAddr (nat_lit 4) g58) p59 
(dTurn (nat_lit 17) [(nat_lit 8), (nat_lit 10)] [(nat_lit 14)] true (xTurn (tnStore (nat_lit 32) g59 g50)) noDst 
(dTurn (nat_lit 18) [] [(nat_lit 14), (nat_lit 17)] false (xNil g46) p60 
(dLook (nat_lit 19) [] [(nat_lit 14), (nat_lit 17)] (lkFieldAddr (nat_lit 36) g60) p61 
(dTurn (nat_lit 20) [] [(nat_lit 14), (nat_lit 17)] true (xTurn (tnStore (nat_lit 2) g61 g55)) noDst (dEnd [(nat_lit 44), (nat_lit 45), (nat_lit 46), (nat_lit 47), (nat_lit 48), (nat_lit 49), (nat_lit 50), (nat_lit 51), (nat_lit 52), (nat_lit 53), (nat_lit 54), (nat_lit 55), (nat_lit 56), (nat_lit 57), (nat_lit 58), (nat_lit 59), (nat_lit 60), (nat_lit 61)]))))))))))))))))))))))) (kSeq (kSeq (oSet (xMove g0) p62 
(oSet (xMove g6) p63 
(oSet (xNil g63) p64 
(oSet (xLook (lkFieldAddr (nat_lit 36) g64)) p65 
(oSet (xLook (lkLoadN (nat_lit 2) g65)) p66 
(oSet (xCall q275 [g62, g66]) p67 
(oSet (xLook (lkUn .not g67)) p68 
oEnd))))))) (kCond g68 (kSeq (oSet (xMove q5) p2 
(oSet (xMove q67) p3 
oEnd)) kRet) kSkip)) (kSeq (kDraw 
(dLook (nat_lit 0) [] [] (lkMove g0) p70 
(dLook (nat_lit 1) [] [] (lkFieldAddr (nat_lit 33) g7) p71 
(dLook (nat_lit 2) [] [] (lkLoad1 g71) p72 
(dLook (nat_lit 3) [] [] (lkMove g6) p73 
(dTurn (nat_lit 4) [] [] false (xNil g73) p74 
(dLook (nat_lit 5) [] [] (lkFieldAddr (nat_lit 36) g74) p75 
(dLook (nat_lit 6) [] [] (lkLoadN (nat_lit 2) g75) p76 
(dTurn (nat_lit 7) [(nat_lit 2)] [] true (xCall q264 [g76]) p77 
(dTurn (nat_lit 8) [] [(nat_lit 7)] true (xCall q263 [g70, g72, g77]) p78 
(dLook (nat_lit 9) [] [(nat_lit 7), (nat_lit 8)] (lkMove g78) p69 
(dLook (nat_lit 10) [] [(nat_lit 7), (nat_lit 8)] (lkExtract (nat_lit 0) g69) p79 
(dLook (nat_lit 11) [] [(nat_lit 7), (nat_lit 8)] (lkExtract (nat_lit 1) g69) p80 
(dLook (nat_lit 12) [] [(nat_lit 7), (nat_lit 8)] (lkMove g79) p10 
(dLook (nat_lit 13) [] [(nat_lit 7), (nat_lit 8)] (lkMove g80) p9 (dEnd [(nat_lit 70), (nat_lit 71), (nat_lit 72), (nat_lit 73), (nat_lit 74), (nat_lit 75), (nat_lit 76), (nat_lit 77), (nat_lit 78), (nat_lit 69), (nat_lit 79), (nat_lit 80), (nat_lit 10), (nat_lit 9)])))))))))))))))) (kSeq (kSeq (oSet (xMove g9) p81 
(oSet (xLook (lkEq true .int g81 q6)) p82 
oEnd)) (kCond g82 (kSeq (oSet (xMove g9) p83 
(oSet (xMove q5) p2 
(oSet (xMove g83) p3 
oEnd))) kRet) kSkip)) (kSeq (oSet (xMove g10) p85 
(oSet (xCall q265 [g85]) p86 
(oSet (xMove g86) p84 
(oSet (xLook (lkExtract (nat_lit 0) g84)) p87 
(oSet (xLook (lkExtract (nat_lit 1) g84)) p88 
(oSet (xLook (lkExtract (nat_lit 2) g84)) p89 
(oSet (xMove g87) p11 
(oSet (xMove g88) p12 
(oSet (xMove g89) p9 
oEnd))))))))) (kSeq (kSeq (oSet (xMove g9) p90 
(oSet (xLook (lkEq true .int g90 q6)) p91 
(oSet (xMove g91) p92 
(oSetIf (wantF g92) (xMove g11) p93 
(oSetIf (wantF g92) (xLook (lkEq true .int g93 q35)) p94 
(oSet (xLook (lkPick g92 q2 g94)) p95 
(oSet (xMove g95) p96 
(oSetIf (wantF g96) (xMove g12) p97 
(oSetIf (wantF g96) (xLook (lkLen .sl g97)) p98 
(oSetIf (wantF g96) (xLook (lkFieldAddr (nat_lit 34) g7)) p99 
(oSetIf (wantF g96) (xLook (lkLoad1 g99)) p100 
(oSetIf (wantF g96) (xLook (lkEq true .int g98 g100)) p101 
(oSet (xLook (lkPick g96 q2 g101)) p102 
oEnd))))))))))))) (kCond g102 (kSeq (oSet (xMove q5) p2 
(oSet (xMove q67) p3 
oEnd)) kRet) kSkip)) (kSeq (oSet (xMove g0) p104 
(oSet (xMove g12) p105 
(oSet (xMove g6) p106 
(oSet (xNil g106) p107 
(oSet (xLook (lkFieldAddr (nat_lit 36) g107)) p108 
(oSet (xLook (lkLoadN (nat_lit 2) g108)) p109 
(oSet (xCall q276 [g104, g105, g109]) p110 
(oSet (xMove g110) p103 
(oSet (xLook (lkExtract (nat_lit 0) g103)) p111 
(oSet (xLook (lkExtract (nat_lit 1) g103)) p112 
(oSet (xMove g111) p13 
(oSet (xMove g112) p14 
oEnd)))))))))))) (kSeq (kSeq (oSet (xMove g14) p113 
(oSet (xLook (lkUn .not g113)) p114 
oEnd)) (kCond g114 (kSeq (oSet (xMove q5) p2 
(oSet (xMove q67) p3 
oEnd)) kRet) kSkip)) (kSeq (oSet (xMove g6) p115 
(oSet (xMove g13) p116 
(oSet (xNil g115) p117 
(oSet (xLook (lkFieldAddr (nat_lit 38) g117)) p118 
(oDo (xTurn (tnStore (nat_lit 1) g118 g116)) 
oEnd))))) (kSeq (oSet (xMove g6) p119 
(oSet (xMove g119) p2 
(oSet (xMove q6) p3 
oEnd))) kRet))))))))))))))))⟩
noncomputable def k121 : KFun := ⟨[rTmp (nat_lit 4) g4], (kSeq (oSet (xMove q0) p4 
oEnd) (kSeq (kSeq (oSet (xMove g0) p6 
(oSet (xLook (lkLen .sl g6)) p7 
(oSet (xMove g1) p8 
(oSet (xLook (lkLen .sl g8)) p9 
(oSet (xLook (lkEq true .int g7 g9)) p10 
oEnd))))) (kCond g10 (kSeq (oSet (xMove q0) p4 
oEnd) kRet) kSkip)) (kSeq (kSeq (oSet (xMove q6) p5 
oEnd) (kBlock (nat_lit 0) (kLoop (kSeq (kSeq (oSet (xMove g5) p11 
(oSet (xMove g0) p12 
(oSet (xLook (lkLen .sl g12)) p13 
(oSet (xLook (lkBin .lss g11 g13)) p14 
oEnd)))) (kCond g14 kSkip (kExit (nat_lit 0)))) (kSeq (kBlock (nat_lit 1) (kSeq (kDraw 
(dLook (nat_lit 0) [] [] (lkMove g0) p17 
(dLook (nat_lit 1) [] [] (lkMove g5) p18 
(dLook (nat_lit 2) [] [] (lkIxSl (nat_lit 2) g17 g18) p19 
(dLook (nat_lit 3) [] [] (lkLoadN (nat_lit 2) g19) p20 
(dLook (nat_lit 4) [] [] (lkMove g1) p21 
(dLook (nat_lit 5) [] [] (lkMove g5) p22 
(dLook (nat_lit 6) [] [] (lkIxSl (nat_lit 2) g21 g22) p23 
(dLook (nat_lit 7) [] [] (lkLoadN (nat_lit 2) g23) p24 
(dLook (nat_lit 8) [] [] (lkEq true (.flat [.str, .str]) g20 g24) p25 (dEnd [(nat_lit 17), (nat_lit 18), (nat_lit 19), (nat_lit 20), (nat_lit 21), (nat_lit 22), (nat_lit 23), (nat_lit 24), (nat_lit 25)]))))))))))) (kCond g25 (kSeq (oSet (xMove q0) p4 
oEnd) kRet) kSkip))) (oSet (xMove g5) p15 
(oSet (xLook (lkBin .add g15 q16)) p16 
(oSet (xMove g16) p5 
oEnd)))))))) (kSeq (oSet (xMove q2) p4 
oEnd) kRet))))⟩
def q277 : List Value := [(.bool false), (.slice none (nat_lit 0) (nat_lit 0)), (.int .i64 (.ofNat (nat_lit 0))), (.int .i64 (.ofNat (nat_lit 0))), (.int .i64 (.ofNat (nat_lit 0)))]
noncomputable def k122 : KFun := ⟨[rTmp (nat_lit 2) g2], (kSeq (oSet (xMove q5) p2 
oEnd) (kSeq (oSet (xTurn (tnBuildSlice [] [] (nat_lit 0))) p3 
(oSet (xMove g0) p4 
(oSet (xTurn (tnAppend (nat_lit 1) g3 g4)) p5 
(oSet (xLook (lkBuild q240 [((nat_lit 0), (nat_lit 1), q2), ((nat_lit 1), (nat_lit 1), g5)])) p6 
(oSet (xLook (lkBuild q277 [((nat_lit 0), (nat_lit 4), g6)])) p7 
(oSet (xTurn (tnBox g7)) p8 
(oSet (xMove g8) p2 
oEnd))))))) kRet))⟩
def q278 : OpdF := kC (.func (.func (nat_lit 212)) ⟨[]⟩ ⟨[]⟩)
noncomputable def k123 : KFun := ⟨[rTmp (nat_lit 4) g4], (kSeq (oSet (xTurn (tnBox g0)) p2 
(oSet (xTurn (tnBox g1)) p3 
(oSet (xMove q6) p4 
oEnd))) (kSeq (oSet (xTurn (tnAlloc q55)) p5 
(oDo (xTurn (tnStore (nat_lit 1) g5 q6)) 
oEnd)) (kSeq (kSeq (oSet (xLook (lkLoad1 g2)) p6 
(oSet (xLook (lkMkFunc (.func (nat_lit 213)) [] [g2, g3, g5])) p7 
(oSet (xCall q278 [g6, g7]) p8 
(oSet (xLook (lkUn .not g8)) p9 
oEnd)))) (kCond g9 (kSeq (oSet (xMove q6) p4 
oEnd) kRet) kSkip)) (kSeq (oSet (xLook (lkLoad1 g5)) p10 
(oSet (xMove g10) p4 
oEnd)) kRet))))⟩
def q279 : OpdF := kC (.func (.func (nat_lit 215)) ⟨[]⟩ ⟨[]⟩)
noncomputable def k124 : KFun := ⟨[rCellN (nat_lit 2) g2 (nat_lit 2)], (kSeq (oSet (xTurn (tnAlloc q66)) p2 
oEnd) (kSeq (kSeq (oSet (xMove g0) p3 
(oSet (xLook (lkEq false .ptr g3 q5)) p4 
(oSet (xMove g4) p5 
(oSetIf (wantF g5) (xMove g0) p6 
(oSetIf (wantF g5) (xNil g6) p7 
(oSetIf (wantF g5) (xLook (lkFieldAddr (nat_lit 0) g7)) p8 
(oSetIf (wantF g5) (xCall q279 [g8]) p9 
(oSet (xLook (lkPick g5 q2 g9)) p10 
oEnd)))))))) (kCond g10 (kSeq (oSet (xLook (lkBuild q66 [((nat_lit 0), (nat_lit 1), q16)])) p11 
(oDo (xTurn (tnStore (nat_lit 2) g2 g11)) 
oEnd)) kRet) kSkip)) (kSeq (oSet (xMove g0) p12 
(oSet (xNil g12) p13 
(oSet (xLook (lkFieldAddr (nat_lit 0) g13)) p14 
(oSet (xLook (lkFieldAddr (nat_lit 2) g14)) p15 
(oSet (xLook (lkLoadN (nat_lit 2) g15)) p16 
(oDo (xTurn (tnStore (nat_lit 2) g2 g16)) 
oEnd)))))) kRet)))⟩
def q280 : OpdF := kC (.func (.func (nat_lit 216)) ⟨[]⟩ ⟨[]⟩)
def q281 : OpdF := kC (.int .i64 (.ofNat (nat_lit 15)))
def q282 : OpdF := kC (.func (.func (nat_lit 217)) ⟨[]⟩ ⟨[]⟩)
def q283 : OpdF := kC (.int .i32 (.ofNat (nat_lit 115)))
def q284 : OpdF := kC (.func (.func (nat_lit 218)) ⟨[]⟩ ⟨[]⟩)
def q285 : OpdF := kC (.int .i32 (.ofNat (nat_lit 110)))
def q286 : OpdF := kC (.func (.func (nat_lit 219)) ⟨[]⟩ ⟨[]⟩)
def q287 : OpdF := kC (.func (.func (nat_lit 220)) ⟨[]⟩ ⟨[]⟩)
def q288 : OpdF := kC (.func (.func (nat_lit 221)) ⟨[]⟩ ⟨[]⟩)
noncomputable def k127 : KFun := ⟨[rTmp (nat_lit 2) g2], (kSeq (oSet (xMove q6) p2 
oEnd) (kSeq (kSeq (oSet (xMove g0) p4 
(oSet (xLook (lkLen .sl g4)) p5 
(oSet (xMove q6) p6 
oEnd))) (kBlock (nat_lit 0) (kLoop (kSeq (oSet (xLook (lkBin .lss g6 g5)) p7 
oEnd) (kSeq (kCond g7 kSkip (kExit (nat_lit 0))) (kSeq (kBlock (nat_lit 1) (kSeq (oSet (xMove g6) p8 
(oSet (xMove g8) p3 
oEnd)) (kSeq (oSet (xMove g0) p9 
(oSet (xMove g3) p10 
(oSet (xCall q288 [g9, g10]) p11 
oEnd))) (kCond g11 (kSeq (oSet (xMove g3) p12 
(oSet (xMove g12) p2 
oEnd)) kRet) kSkip)))) (oSet (xLook (lkBin .add g6 q16)) p13 
(oSet (xMove g13) p6 
oEnd)))))))) (kSeq (oSet (xMove q269) p2 
oEnd) kRet)))⟩
noncomputable def k128 : KFun := ⟨[rTmp (nat_lit 2) g2], (kSeq (oSet (xMove q0) p2 
oEnd) (kSeq (kSeq (oSet (xMove q16) p3 
oEnd) (kBlock (nat_lit 0) (kLoop (kSeq (kSeq (oSet (xMove g3) p4 
(oSet (xMove g0) p5 
(oSet (xLook (lkLen .sl g5)) p6 
(oSet (xLook (lkBin .lss g4 g6)) p7 
oEnd)))) (kCond g7 kSkip (kExit (nat_lit 0)))) (kSeq (kBlock (nat_lit 1) (kSeq (kDraw 
(dLook (nat_lit 0) [] [] (lkMove g0) p10 
(dLook (nat_lit 1) [] [] (lkMove g3) p11 
(dLook (nat_lit 2) [] [] (lkIxSl (nat_lit 1) g10 g11) p12 
(dLook (nat_lit 3) [] [] (lkLoad1 g12) p13 
(dLook (nat_lit 4) [] [] (lkMove g0) p14 
(dLook (nat_lit 5) [] [] (lkMove g3) p15 
(dLook (nat_lit 6) [] [] (lkBin .sub g15 q16) p16 
(dLook (nat_lit 7) [] [] (lkIxSl (nat_lit 1) g14 g16) p17 
(dLook (nat_lit 8) [] [] (lkLoad1 g17) p18 
(dLook (nat_lit 9) [] [] (lkBin .leq g13 g18) p19 (dEnd [(nat_lit 10), (nat_lit 11), (nat_lit 12), (nat_lit 13), (nat_lit 14), (nat_lit 15), (nat_lit 16), (nat_lit 17), (nat_lit 18), (nat_lit 19)])))))))))))) (kCond g19 (kSeq (oSet (xMove q0) p2 
oEnd) kRet) kSkip))) (oSet (xMove g3) p8 
(oSet (xLook (lkBin .add g8 q16)) p9 
(oSet (xMove g9) p3 
oEnd)))))))) (kSeq (oSet (xMove q2) p2 
oEnd) kRet)))⟩
noncomputable def k129 : KFun := ⟨[rTmp (nat_lit 2) g2], (kSeq (oSet (xTurn (tnBox g0)) p1 
(oSet (xMove q18) p2 
oEnd)) (kSeq (oSet (xMove q18) p3 
oEnd) (kSeq (kSeq (oSet (xLook (lkFieldAddr (nat_lit 4) g1)) p6 
(oSet (xLook (lkLoad1 g6)) p7 
(oSet (xLook (lkLen .sl g7)) p8 
(oSet (xMove q6) p9 
oEnd)))) (kBlock (nat_lit 0) (kLoop (kSeq (oSet (xLook (lkBin .lss g9 g8)) p10 
oEnd) (kSeq (kCond g10 kSkip (kExit (nat_lit 0))) (kSeq (kBlock (nat_lit 1) (kSeq (oSet (xLook (lkIxSl (nat_lit 3) g7 g9)) p11 
(oSet (xLook (lkLoadN (nat_lit 3) g11)) p12 
(oSet (xTurn (tnAlloc q167)) p5 
(oDo (xTurn (tnStore (nat_lit 3) g5 g12)) 
oEnd)))) (oSet (xMove g3) p13 
(oSet (xLook (lkFieldAddr (nat_lit 0) g5)) p14 
(oSet (xLook (lkLoad1 g14)) p15 
(oSet (xTurn (tnBuildSlice q200 [((nat_lit 0), (nat_lit 1), g15)] (nat_lit 1))) p16 
(oSet (xTurn (tnAppend (nat_lit 1) g13 g16)) p17 
(oSet (xMove g17) p3 
oEnd)))))))) (oSet (xLook (lkBin .add g9 q16)) p18 
(oSet (xMove g18) p9 
oEnd)))))))) (kSeq (oSet (xMove g3) p19 
(oSet (xMove g19) p2 
oEnd)) kRet))))⟩
noncomputable def k130d0 : KD := 
(dLook (nat_lit 17) [] [] (lkPick g32 q2 g36) p37 (dEnd [(nat_lit 20), (nat_lit 21), (nat_lit 22), (nat_lit 23), (nat_lit 24), (nat_lit 25), (nat_lit 26), (nat_lit 27), (nat_lit 28), (nat_lit 29), (nat_lit 30), (nat_lit 31), (nat_lit 32), (nat_lit 33), (nat_lit 34), (nat_lit 35), (nat_lit 36), (nat_lit 37)]))
noncomputable def k130d1 : KD := 
(dIf [] (wantF g32) p36 (dLook (nat_lit 16) [] [] (lkBin .gtr g35 q254) p36 k130d0) k130d0)
noncomputable def k130d2 : KD := 
(dIf [] (wantF g32) p35 (dLook (nat_lit 15) [] [] (lkLen .str g34) p35 k130d1) k130d1)
noncomputable def k130d3 : KD := 
(dIf [] (wantF g32) p34 (dLook (nat_lit 14) [] [] (lkLoad1 g33) p34 k130d2) k130d2)
noncomputable def k130d4 : KD := 
(dLook (nat_lit 11) [] [] (lkPick g26 q2 g30) p31 
(dLook (nat_lit 12) [] [] (lkMove g31) p32 
(dIf [] (wantF g32) p33 (dLook (nat_lit 13) [] [] (lkFieldAddr (nat_lit 1) g5) p33 k130d3) k130d3)))
noncomputable def k130d5 : KD := 
(dIf [] (wantF g26) p30 (dLook (nat_lit 10) [] [] (lkBin .gtr g29 q254) p30 k130d4) k130d4)
noncomputable def k130d6 : KD := 
(dIf [] (wantF g26) p29 (dLook (nat_lit 9) [] [] (lkLen .str g28) p29 k130d5) k130d5)
noncomputable def k130d7 : KD := 
(dIf [] (wantF g26) p28 (dLook (nat_lit 8) [] [] (lkLoad1 g27) p28 k130d6) k130d6)
noncomputable def k130 : KFun := ⟨[rTmp (nat_lit 2) g2], (kSeq (oSet (xMove q0) p2 
oEnd) (kSeq (oSet (xMove g0) p6 
(oSet (xCall q173 [g6]) p7 
(oSet (xMove g7) p3 
oEnd))) (kSeq (kSeq (oSet (xMove g3) p8 
(oSet (xLook (lkLen .sl g8)) p9 
(oSet (xMove g0) p10 
(oSet (xLook (lkLen .sl g10)) p11 
(oSet (xLook (lkEq true .int g9 g11)) p12 
oEnd))))) (kCond g12 (kSeq (oSet (xMove q0) p2 
oEnd) kRet) kSkip)) (kSeq (kSeq (oSet (xMove g0) p13 
(oSet (xLook (lkLen .sl g13)) p14 
(oSet (xMove q6) p15 
oEnd))) (kBlock (nat_lit 0) (kLoop (kSeq (oSet (xLook (lkBin .lss g15 g14)) p16 
oEnd) (kSeq (kCond g16 kSkip (kExit (nat_lit 0))) (kSeq (kBlock (nat_lit 1) (kSeq (oSet (xMove g15) p17 
(oSet (xLook (lkIxSl (nat_lit 2) g13 g15)) p18 
(oSet (xLook (lkLoadN (nat_lit 2) g18)) p19 
(oSet (xTurn (tnAlloc q52)) p5 
(oSet (xMove g17) p4 
(oDo (xTurn (tnStore (nat_lit 2) g5 g19)) 
oEnd)))))) (kSeq (kDraw 
(dLook (nat_lit 0) [] [] (lkLoadN (nat_lit 2) g5) p20 
(dLook (nat_lit 1) [] [] (lkMove g3) p21 
(dLook (nat_lit 2) [] [] (lkMove g4) p22 
(dLook (nat_lit 3) [] [] (lkIxSl (nat_lit 2) g21 g22) p23 
(dLook (nat_lit 4) [] [] (lkLoadN (nat_lit 2) g23) p24 
(dLook (nat_lit 5) [] [] (lkEq true (.flat [.str, .str]) g20 g24) p25 
(dLook (nat_lit 6) [] [] (lkMove g25) p26 
(dIf [] (wantF g26) p27 (dLook (nat_lit 7) [] [] (lkFieldAddr (nat_lit 0) g5) p27 k130d7) k130d7))))))))) (kCond g37 (kSeq (oSet (xMove q0) p2 
oEnd) kRet) kSkip)))) (oSet (xLook (lkBin .add g15 q16)) p38 
(oSet (xMove g38) p15 
oEnd)))))))) (kSeq (oSet (xMove q2) p2 
oEnd) kRet)))))⟩
def q289 : OpdF := kC (.int .i64 (.ofNat (nat_lit 32)))
noncomputable def k131 : KFun := ⟨[rTmp (nat_lit 2) g2], (kSeq (oSet (xMove q0) p2 
oEnd) (kSeq (oSet (xMove g0) p3 
(oSet (xLook (lkEq true .str g3 q111)) p4 
(oSet (xMove g4) p5 
(oSetIf (wantT g5) (xMove g0) p6 
(oSetIf (wantT g5) (xLook (lkLen .str g6)) p7 
(oSetIf (wantT g5) (xLook (lkBin .leq g7 q289)) p8 
(oSet (xLook (lkPick g5 g8 q0)) p9 
(oSet (xMove g9) p2 
oEnd)))))))) kRet))⟩
noncomputable def k132 : KFun := ⟨[rTmp (nat_lit 2) g2], (kSeq (oSet (xTurn (tnBox g0)) p1 
(oSet (xMove q0) p2 
oEnd)) (kSeq (oSet (xLook (lkFieldAddr (nat_lit 0) g1)) p3 
(oSet (xLook (lkLoad1 g3)) p4 
(oSet (xCall q166 [g4]) p5 
(oSet (xMove g5) p6 
(oSetIf (wantT g6) (xLook (lkFieldAddr (nat_lit 1) g1)) p7 
(oSetIf (wantT g6) (xLook (lkLoad1 g7)) p8 
(oSetIf (wantT g6) (xLook (lkLen .str g8)) p9 
(oSetIf (wantT g6) (xLook (lkBin .leq g9 q254)) p10 
(oSet (xLook (lkPick g6 g10 q0)) p11 
(oSet (xMove g11) p12 
(oSetIf (wantT g12) (xLook (lkFieldAddr (nat_lit 2) g1)) p13 
(oSetIf (wantT g12) (xLook (lkLoad1 g13)) p14 
(oSetIf (wantT g12) (xLook (lkUn .not g14)) p15 
(oSetIf (wantT g12) (xMove g15) p16 
(oSetIf (wantF g16) (xLook (lkFieldAddr (nat_lit 1) g1)) p17 
(oSetIf (wantF g16) (xLook (lkLoad1 g17)) p18 
(oSetIf (wantF g16) (xLook (lkEq false .str g18 q111)) p19 
(oSetIf (wantT g12) (xLook (lkPick g16 q2 g19)) p20 
(oSet (xLook (lkPick g12 g20 q0)) p21 
(oSet (xMove g21) p2 
oEnd)))))))))))))))))))) kRet))⟩
noncomputable def k133d0 : KD := 
(dLook (nat_lit 24) [] [(nat_lit 2)] (lkPick g25 q2 g38) p39 (dEnd [(nat_lit 15), (nat_lit 16), (nat_lit 17), (nat_lit 18), (nat_lit 19), (nat_lit 20), (nat_lit 21), (nat_lit 22), (nat_lit 23), (nat_lit 24), (nat_lit 25), (nat_lit 26), (nat_lit 27), (nat_lit 28), (nat_lit 29), (nat_lit 30), (nat_lit 31), (nat_lit 32), (nat_lit 33), (nat_lit 34), (nat_lit 35), (nat_lit 36), (nat_lit 37), (nat_lit 38), (nat_lit 39)]))
noncomputable def k133d1 : KD := 
(dIf [(nat_lit 2)] (wantF g25) p38 (dLook (nat_lit 23) [] [(nat_lit 2)] (lkPick g28 g37 q0) p38 k133d0) k133d0)
noncomputable def k133d2 : KD := 
(dIf [(nat_lit 2)] (wantT g28) p37 (dLook (nat_lit 22) [] [(nat_lit 2)] (lkBin .leq g30 g36) p37 k133d1) k133d1)
noncomputable def k133d3 : KD := 
(dIf [(nat_lit 2)] (wantT g28) p36 (dLook (nat_lit 21) [] [(nat_lit 2)] (lkLoad1 g35) p36 k133d2) k133d2)
noncomputable def k133d4 : KD := 
(dIf [(nat_lit 2)] (wantT g28) p35 (dLook (nat_lit 20) [] [(nat_lit 2)] (lkFieldAddr (nat_lit 0) g34) p35 k133d3) k133d3)
noncomputable def k133d5 : KD := 
(dIf [(nat_lit 2)] (wantT g28) p34 (dLook (nat_lit 19) [] [(nat_lit 2)] (lkIxSl (nat_lit 2) g31 g33) p34 k133d4) k133d4)
noncomputable def k133d6 : KD := 
(dIf [(nat_lit 2)] (wantT g28) p33 (dLook (nat_lit 18) [] [(nat_lit 2)] (lkBin .sub g32 q16) p33 k133d5) k133d5)
noncomputable def k133d7 : KD := 
(dIf [(nat_lit 2)] (wantT g28) p32 (dLook (nat_lit 17) [] [(nat_lit 2)] (lkMove g3) p32 k133d6) k133d6)
noncomputable def k133d8 : KD := 
(dIf [(nat_lit 2)] (wantT g28) p31 (dLook (nat_lit 16) [] [(nat_lit 2)] (lkMove g0) p31 k133d7) k133d7)
noncomputable def k133d9 : KD := 
(dIf [(nat_lit 2)] (wantT g28) p30 (dLook (nat_lit 15) [] [(nat_lit 2)] (lkLoad1 g29) p30 k133d8) k133d8)
noncomputable def k133d10 : KD := 
(dIf [(nat_lit 2)] (wantT g28) p29 (dLook (nat_lit 14) [] [(nat_lit 2)] (lkFieldAddr (nat_lit 0) g4) p29 k133d9) k133d9)
noncomputable def k133d11 : KD := 
(dIf [(nat_lit 2)] (wantF g25) p28 (dLook (nat_lit 13) [] [(nat_lit 2)] (lkMove g27) p28 k133d10) k133d10)
noncomputable def k133d12 : KD := 
(dIf [(nat_lit 2)] (wantF g25) p27 (dLook (nat_lit 12) [] [(nat_lit 2)] (lkBin .gtr g26 q6) p27 k133d11) k133d11)
noncomputable def k133d13 : KD := 
(dLook (nat_lit 9) [] [(nat_lit 2)] (lkPick g19 q2 g23) p24 
(dLook (nat_lit 10) [] [(nat_lit 2)] (lkMove g24) p25 
(dIf [(nat_lit 2)] (wantF g25) p26 (dLook (nat_lit 11) [] [(nat_lit 2)] (lkMove g3) p26 k133d12) k133d12)))
noncomputable def k133d14 : KD := 
(dIf [(nat_lit 2)] (wantF g19) p23 (dLook (nat_lit 8) [] [(nat_lit 2)] (lkBin .gtr g22 q254) p23 k133d13) k133d13)
noncomputable def k133d15 : KD := 
(dIf [(nat_lit 2)] (wantF g19) p22 (dLook (nat_lit 7) [] [(nat_lit 2)] (lkLen .str g21) p22 k133d14) k133d14)
noncomputable def k133d16 : KD := 
(dIf [(nat_lit 2)] (wantF g19) p21 (dLook (nat_lit 6) [] [(nat_lit 2)] (lkLoad1 g20) p21 k133d15) k133d15)
noncomputable def k133 : KFun := ⟨[rTmp (nat_lit 2) g2], (kSeq (oSet (xMove q6) p2 
oEnd) (kSeq (kSeq (oSet (xMove g0) p5 
(oSet (xLook (lkLen .sl g5)) p6 
(oSet (xLook (lkBin .gtr g6 q128)) p7 
oEnd))) (kCond g7 (kSeq (oSet (xMove q83) p2 
oEnd) kRet) kSkip)) (kSeq (kSeq (oSet (xMove g0) p8 
(oSet (xLook (lkLen .sl g8)) p9 
(oSet (xMove q6) p10 
oEnd))) (kBlock (nat_lit 0) (kLoop (kSeq (oSet (xLook (lkBin .lss g10 g9)) p11 
oEnd) (kSeq (kCond g11 kSkip (kExit (nat_lit 0))) (kSeq (kBlock (nat_lit 1) (kSeq (oSet (xMove g10) p12 
(oSet (xLook (lkIxSl (nat_lit 2) g8 g10)) p13 
(oSet (xLook (lkLoadN (nat_lit 2) g13)) p14 
(oSet (xTurn (tnAlloc q52)) p4 
(oSet (xMove g12) p3 
(oDo (xTurn (tnStore (nat_lit 2) g4 g14)) 
oEnd)))))) (kSeq (kDraw 
(dLook (nat_lit 0) [] [] (lkFieldAddr (nat_lit 0) g4) p15 
(dLook (nat_lit 1) [] [] (lkLoad1 g15) p16 
(dTurn (nat_lit 2) [] [] true (xCall q166 [g16]) p17 
(dLook (nat_lit 3) [] [(nat_lit 2)] (lkUn .not g17) p18 
(dLook (nat_lit 4) [] [(nat_lit 2)] (lkMove g18) p19 
(dIf [(nat_lit 2)] (wantF g19) p20 (dLook (nat_lit 5) [] [(nat_lit 2)] (lkFieldAddr (nat_lit 1) g4) p20 k133d16) k133d16))))))) (kCond g39 (kSeq (oSet (xMove q35) p2 
oEnd) kRet) kSkip)))) (oSet (xLook (lkBin .add g10 q16)) p40 
(oSet (xMove g40) p10 
oEnd)))))))) (kSeq (oSet (xMove q6) p2 
oEnd) kRet))))⟩
def q290 : OpdF := kC (.func (.func (nat_lit 223)) ⟨[]⟩ ⟨[]⟩)
def q291 : List Value := [.nilFunc, .nilFunc, .nilFunc, .nilFunc, .nilFunc, .nilFunc, .nilFunc, .nilFunc, .nilFunc, .nilFunc, .nilFunc, .nilFunc, .nilFunc, .nilFunc, .nilFunc, .nilFunc]
def q292 : OpdF := kC (.func (.func (nat_lit 224)) ⟨[]⟩ ⟨[]⟩)
noncomputable def k134 : KFun := ⟨[], (kSeq (oSet (xTurn (tnBox g0)) p2 
oEnd) (kSeq (oSet (xLook (lkMkFunc (.func (nat_lit 222)) [] [g2])) p6 
(oDo (xDefer g6 []) 
oEnd)) (kSeq (oSet (xCall q290 []) p7 
(oSet (xTurn (tnAlloc q291)) p4 
(oDo (xTurn (tnStore (nat_lit 16) g4 g7)) 
oEnd))) (kBlock (nat_lit 0) (kLoop (kSeq (kSeq (oSet (xLook (lkLoad1 g2)) p8 
(oSet (xNil g8) p9 
(oSet (xLook (lkFieldAddr (nat_lit 10) g9)) p10 
(oSet (xLook (lkLoad1 g10)) p11 
(oSet (xMove g1) p12 
(oSet (xLook (lkLen .sl g12)) p13 
(oSet (xLook (lkBin .lss g11 g13)) p14 
oEnd))))))) (kCond g14 kSkip (kExit (nat_lit 0)))) (kBlock (nat_lit 1) (kSeq (oSet (xLook (lkLoad1 g2)) p15 
(oSet (xCall q292 [g15]) p16 
oEnd)) (kSeq (oSet (xMove g1) p17 
(oSet (xLook (lkLoad1 g2)) p18 
(oSet (xNil g18) p19 
(oSet (xLook (lkFieldAddr (nat_lit 10) g19)) p20 
(oSet (xLook (lkLoad1 g20)) p21 
(oSet (xLook (lkIxSl (nat_lit 6) g17 g21)) p22 
(oSet (xLook (lkLoadN (nat_lit 6) g22)) p23 
(oSet (xTurn (tnAlloc q148)) p5 
(oDo (xTurn (tnStore (nat_lit 6) g5 g23)) 
oEnd))))))))) (kSeq (oSet (xLook (lkLoad1 g2)) p24 
(oSet (xNil g24) p25 
(oSet (xLook (lkFieldAddr (nat_lit 10) g25)) p26 
(oSet (xLook (lkLoad1 g26)) p27 
(oSet (xLook (lkBin .add g27 q16)) p28 
(oSet (xNil g24) p29 
(oSet (xLook (lkFieldAddr (nat_lit 10) g29)) p30 
(oDo (xTurn (tnStore (nat_lit 1) g30 g28)) 
oEnd)))))))) (kDraw 
(dLook (nat_lit 0) [] [] (lkFieldAddr (nat_lit 0) g5) p31 
(dLook (nat_lit 1) [] [] (lkLoad1 g31) p32 
(dLook (nat_lit 2) [] [] (lkIxArr (nat_lit 16) (nat_lit 1) g4 g32) p33 
(dLook (nat_lit 3) [] [] (lkLoad1 g33) p34 
(dLook (nat_lit 4) [] [] (lkLoad1 g2) p35 
(dLook (nat_lit 5) [] [] (lkLoadN (nat_lit 6) g5) p36 
(dTurn (nat_lit 6) [] [] true (xCall g34 [g35, g36]) p37 (dEnd [(nat_lit 31), (nat_lit 32), (nat_lit 33), (nat_lit 34), (nat_lit 35), (nat_lit 36), (nat_lit 37)])))))))))))))))))))⟩
def q293 : OpdF := kC (.func (.func (nat_lit 226)) ⟨[]⟩ ⟨[]⟩)
def q294 : OpdF := kC (.func (.func (nat_lit 225)) ⟨[]⟩ ⟨[]⟩)
noncomputable def k135 : KFun := ⟨[rTmp (nat_lit 2) g2], (kSeq (oSet (xMove q18) p2 
oEnd) (kSeq (oSet (xTurn (tnMkMap (.one .str))) p6 
(oSet (xMove g6) p3 
oEnd)) (kSeq (kSeq (oSet (xMove g0) p7 
(oSet (xLook (lkLen .sl g7)) p8 
(oSet (xMove q6) p9 
oEnd))) (kBlock (nat_lit 0) (kLoop (kSeq (oSet (xLook (lkBin .lss g9 g8)) p10 
oEnd) (kSeq (kCond g10 kSkip (kExit (nat_lit 0))) (kSeq (kBlock (nat_lit 1) (kSeq (oSet (xLook (lkIxSl (nat_lit 1) g7 g9)) p11 
(oSet (xLook (lkLoad1 g11)) p12 
(oSet (xMove g12) p5 
oEnd))) (oSet (xMove g3) p13 
(oSet (xMove g5) p14 
(oSet (xLook (lkBuild [] [])) p15 
(oDo (xTurn (tnMapUpdate (.one .str) g13 g14 g15)) 
oEnd)))))) (oSet (xLook (lkBin .add g9 q16)) p16 
(oSet (xMove g16) p9 
oEnd)))))))) (kSeq (oSet (xMove g3) p17 
(oSet (xCall q293 [g17]) p18 
(oSet (xCall q294 [g18]) p19 
(oSet (xMove g19) p2 
oEnd)))) kRet))))⟩
def q295 : OpdF := kC (.func (.func (nat_lit 227)) ⟨[]⟩ ⟨[]⟩)
noncomputable def k136 : KFun := ⟨[rTmp (nat_lit 2) g2], (kSeq (oSet (xMove q18) p2 
oEnd) (kSeq (oSet (xMove g0) p3 
(oSet (xCall q295 [g3]) p4 
(oSet (xMove g4) p2 
oEnd))) kRet))⟩
def q296 : OpdF := kC (.func (.func (nat_lit 228)) ⟨[]⟩ ⟨[]⟩)
noncomputable def k137 : KFun := ⟨[rTmp (nat_lit 2) g2], (kSeq (oSet (xMove q18) p2 
oEnd) (kSeq (oSet (xMove q18) p3 
oEnd) (kSeq (kSeq (oSet (xMove g0) p6 
(oSet (xNil g6) p7 
(oSet (xLook (lkFieldAddr (nat_lit 0) g7)) p8 
(oSet (xLook (lkLoad1 g8)) p9 
(oSet (xCall q296 [g9]) p10 
(oSet (xCall q294 [g10]) p11 
(oSet (xLook (lkLen .sl g11)) p12 
(oSet (xMove q6) p13 
oEnd)))))))) (kBlock (nat_lit 0) (kLoop (kSeq (oSet (xLook (lkBin .lss g13 g12)) p14 
oEnd) (kSeq (kCond g14 kSkip (kExit (nat_lit 0))) (kSeq (kBlock (nat_lit 1) (kSeq (oSet (xLook (lkIxSl (nat_lit 1) g11 g13)) p15 
(oSet (xLook (lkLoad1 g15)) p16 
(oSet (xMove g16) p5 
oEnd))) (oSet (xMove g3) p17 
(oSet (xMove g0) p18 
(oSet (xNil g18) p19 
(oSet (xLook (lkFieldAddr (nat_lit 0) g19)) p20 
(oSet (xLook (lkLoad1 g20)) p21 
(oSet (xMove g5) p22 
(oSet (xLook (lkLookup (.one .str) (.agg ⟨[(.string ⟨⟨[]⟩⟩), (.string ⟨⟨[]⟩⟩), (.bool false)]⟩) false g21 g22)) p23 
(oSet (xTurn (tnBuildSlice q167 [((nat_lit 0), (nat_lit 3), g23)] (nat_lit 1))) p24 
(oSet (xTurn (tnAppend (nat_lit 3) g17 g24)) p25 
(oSet (xMove g25) p3 
oEnd)))))))))))) (oSet (xLook (lkBin .add g13 q16)) p26 
(oSet (xMove g26) p13 
oEnd)))))))) (kSeq (oSet (xMove g3) p27 
(oSet (xMove g27) p2 
oEnd)) kRet))))⟩
def q297 : OpdF := kC (.func (.func (nat_lit 229)) ⟨[]⟩ ⟨[]⟩)
def q298 : OpdF := kC (.func (.func (nat_lit 230)) ⟨[]⟩ ⟨[]⟩)
def q299 : OpdF := kC (.func (.func (nat_lit 231)) ⟨[]⟩ ⟨[]⟩)
noncomputable def k138 : KFun := ⟨[rTmp (nat_lit 4) g4, rTmp (nat_lit 5) g5], (kSeq (oSet (xMove q18) p4 
(oSet (xMove q6) p5 
oEnd)) (kSeq (kSeq (oSet (xMove g0) p12 
(oSet (xCall q170 [g12]) p13 
(oSet (xMove g13) p6 
oEnd))) (kSeq (oSet (xMove g6) p14 
(oSet (xLook (lkEq true .int g14 q6)) p15 
oEnd)) (kCond g15 (kSeq (oSet (xMove g6) p16 
(oSet (xMove q18) p4 
(oSet (xMove g16) p5 
oEnd))) kRet) kSkip))) (kSeq (oSet (xTurn (tnMkMap (.one .str))) p17 
(oSet (xLook (lkBuild q31 [((nat_lit 0), (nat_lit 1), g17)])) p18 
(oSet (xTurn (tnAlloc q31)) p7 
(oDo (xTurn (tnStore (nat_lit 1) g7 g18)) 
oEnd)))) (kSeq (kSeq (oSet (xMove g0) p19 
(oSet (xLook (lkLen .sl g19)) p20 
(oSet (xMove q6) p21 
oEnd))) (kBlock (nat_lit 0) (kLoop (kSeq (oSet (xLook (lkBin .lss g21 g20)) p22 
oEnd) (kSeq (kCond g22 kSkip (kExit (nat_lit 0))) (kSeq (kBlock (nat_lit 1) (kSeq (oSet (xLook (lkIxSl (nat_lit 2) g19 g21)) p23 
(oSet (xLook (lkLoadN (nat_lit 2) g23)) p24 
(oSet (xTurn (tnAlloc q52)) p9 
(oDo (xTurn (tnStore (nat_lit 2) g9 g24)) 
oEnd)))) (oSet (xLook (lkFieldAddr (nat_lit 0) g7)) p25 
(oSet (xLook (lkLoad1 g25)) p26 
(oSet (xLook (lkFieldAddr (nat_lit 0) g9)) p27 
(oSet (xLook (lkLoad1 g27)) p28 
(oSet (xLook (lkFieldAddr (nat_lit 1) g9)) p29 
(oSet (xLook (lkLoad1 g29)) p30 
(oSet (xLook (lkBuild q200 [((nat_lit 0), (nat_lit 1), g30)])) p31 
(oDo (xTurn (tnMapUpdate (.one .str) g26 g28 g31)) 
oEnd)))))))))) (oSet (xLook (lkBin .add g21 q16)) p32 
(oSet (xMove g32) p21 
oEnd)))))))) (kSeq (kSeq (oSet (xMove g1) p33 
(oSet (xLook (lkLen .sl g33)) p34 
(oSet (xMove q6) p35 
oEnd))) (kBlock (nat_lit 2) (kLoop (kSeq (oSet (xLook (lkBin .lss g35 g34)) p36 
oEnd) (kSeq (kCond g36 kSkip (kExit (nat_lit 2))) (kSeq (kBlock (nat_lit 3) (kSeq (oSet (xLook (lkIxSl (nat_lit 3) g33 g35)) p37 
(oSet (xLook (lkLoadN (nat_lit 3) g37)) p38 
(oSet (xTurn (tnAlloc q167)) p11 
(oDo (xTurn (tnStore (nat_lit 3) g11 g38)) 
oEnd)))) (kSeq (kSeq (oSet (xLook (lkLoadN (nat_lit 3) g11)) p39 
(oSet (xCall q297 [g39]) p40 
(oSet (xLook (lkUn .not g40)) p41 
oEnd))) (kCond g41 (kSeq (oSet (xMove q18) p4 
(oSet (xMove q35) p5 
oEnd)) kRet) kSkip)) (oSet (xLook (lkLoadN (nat_lit 1) g7)) p42 
(oSet (xLook (lkLoadN (nat_lit 3) g11)) p43 
(oSet (xCall q298 [g42, g43]) p44 
oEnd)))))) (oSet (xLook (lkBin .add g35 q16)) p45 
(oSet (xMove g45) p35 
oEnd)))))))) (kSeq (kSeq (oSet (xLook (lkFieldAddr (nat_lit 0) g7)) p46 
(oSet (xLook (lkLoad1 g46)) p47 
(oSet (xLook (lkLen .map g47)) p48 
(oSet (xLook (lkBin .gtr g48 q128)) p49 
oEnd)))) (kCond g49 (kSeq (oSet (xMove q18) p4 
(oSet (xMove q83) p5 
oEnd)) kRet) kSkip)) (kSeq (oSet (xLook (lkLoadN (nat_lit 1) g7)) p50 
(oSet (xCall q299 [g50]) p51 
(oSet (xMove g51) p4 
(oSet (xMove q6) p5 
oEnd)))) kRet)))))))⟩
noncomputable def k140 : KFun := ⟨[rTmp (nat_lit 2) g2], (kSeq (oSet (xMove q18) p2 
oEnd) (kSeq (kSeq (oSet (xMove g0) p3 
(oSet (xLook (lkEq false .slice g3 q18)) p4 
oEnd)) (kCond g4 (kSeq (oSet (xMove q18) p2 
oEnd) kRet) kSkip)) (kSeq (oSet (xTurn (tnBuildSlice [] [] (nat_lit 0))) p5 
(oSet (xMove g0) p6 
(oSet (xTurn (tnAppend (nat_lit 2) g5 g6)) p7 
(oSet (xMove g7) p2 
oEnd)))) kRet)))⟩
noncomputable def k144 : KFun := ⟨[rTmp (nat_lit 2) g2], (kSeq (oSet (xTurn (tnBox g0)) p1 
(oSet (xMove q225) p2 
oEnd)) (kSeq (oSet (xLook (lkMkFunc (.func (nat_lit 234)) [] [g1])) p3 
(oSet (xMove g3) p2 
oEnd)) kRet))⟩
noncomputable def k146 : KFun := ⟨[rTmp (nat_lit 2) g2], (kSeq (oSet (xTurn (tnBox g0)) p1 
(oSet (xMove q6) p2 
oEnd)) (kSeq (kSeq (oSet (xLook (lkFieldAddr (nat_lit 0) g1)) p9 
(oSet (xLook (lkLoad1 g9)) p10 
(oSet (xLook (lkBin .lss g10 q16)) p11 
(oSet (xMove g11) p12 
(oSetIf (wantF g12) (xLook (lkFieldAddr (nat_lit 0) g1)) p13 
(oSetIf (wantF g12) (xLook (lkLoad1 g13)) p14 
(oSetIf (wantF g12) (xLook (lkBin .gtr g14 q281)) p15 
(oSet (xLook (lkPick g12 q2 g15)) p16 
oEnd)))))))) (kCond g16 (kSeq (oSet (xMove q35) p2 
oEnd) kRet) kSkip)) (kSeq (oSet (xLook (lkLoadN (nat_lit 6) g1)) p17 
(oSet (xTurn (tnAlloc q148)) p3 
(oDo (xTurn (tnStore (nat_lit 6) g3 g17)) 
oEnd))) (kSeq (oSet (xLook (lkFieldAddr (nat_lit 0) g3)) p18 
(oDo (xTurn (tnStore (nat_lit 1) g18 q6)) 
oEnd)) (kSeq (kSeq (oSet (xLook (lkFieldAddr (nat_lit 0) g1)) p19 
(oSet (xLook (lkLoad1 g19)) p20 
(oSet (xCall q282 [g20]) p21 
(oSet (xTurn (tnRangeStr g21)) p22 
oEnd)))) (kBlock (nat_lit 0) (kLoop (kSeq (oSet (xTurn (tnNextStr g22)) p23 
(oSet (xLook (lkExtract (nat_lit 0) g23)) p24 
oEnd)) (kSeq (kCond g24 kSkip (kExit (nat_lit 0))) (kBlock (nat_lit 1) (kSeq (oSet (xLook (lkExtract (nat_lit 2) g23)) p25 
(oSet (xMove g25) p5 
oEnd)) (kSeq (kSeq (oSet (xMove g5) p26 
(oSet (xLook (lkEq false .int g26 q283)) p27 
oEnd)) (kCond g27 (kSeq (kSeq (oSet (xLook (lkFieldAddr (nat_lit 5) g1)) p28 
(oSet (xLook (lkLoad1 g28)) p29 
(oSet (xLook (lkLen .str g29)) p30 
(oSet (xLook (lkBin .gtr g30 q254)) p31 
oEnd)))) (kCond g31 (kSeq (oSet (xMove q35) p2 
oEnd) kRet) kSkip)) (kSeq (oSet (xLook (lkFieldAddr (nat_lit 5) g3)) p32 
(oDo (xTurn (tnStore (nat_lit 1) g32 q111)) 
oEnd)) (kExit (nat_lit 1)))) kSkip)) (kSeq (oSet (xMove q6) p6 
(oSet (xMove q36) p7 
oEnd)) (kSeq (kSeq (oSet (xMove g5) p33 
(oSet (xLook (lkEq false .int g33 q285)) p34 
oEnd)) (kCond g34 (oSet (xLook (lkFieldAddr (nat_lit 0) g1)) p35 
(oSet (xLook (lkLoad1 g35)) p36 
(oSet (xCall q286 [g36]) p37 
(oSet (xMove q16) p6 
(oSet (xMove g37) p7 
oEnd))))) kSkip)) (kSeq (oSet (xMove g5) p38 
(oSet (xCall q287 [g3, g38]) p39 
(oSet (xMove g39) p8 
oEnd))) (kSeq (kSeq (oSet (xMove g8) p40 
(oSet (xNil g40) p41 
(oSet (xLook (lkLoad1 g41)) p42 
(oSet (xMove g6) p43 
(oSet (xLook (lkBin .lss g42 g43)) p44 
(oSet (xMove g44) p45 
(oSetIf (wantF g45) (xMove g8) p46 
(oSetIf (wantF g45) (xNil g46) p47 
(oSetIf (wantF g45) (xLook (lkLoad1 g47)) p48 
(oSetIf (wantF g45) (xMove g7) p49 
(oSetIf (wantF g45) (xLook (lkBin .gtr g48 g49)) p50 
(oSet (xLook (lkPick g45 q2 g50)) p51 
oEnd)))))))))))) (kCond g51 (kSeq (oSet (xMove q35) p2 
oEnd) kRet) kSkip)) (oSet (xMove g8) p52 
(oSet (xNil g52) p53 
(oDo (xTurn (tnStore (nat_lit 1) g53 q6)) 
oEnd))))))))))))))) (kSeq (kSeq (oSet (xLook (lkLoadN (nat_lit 6) g3)) p54 
(oSet (xLook (lkBuild q148 [])) p55 
(oSet (xLook (lkEq true (.flat [(.int .i64), (.int .i64), (.int .i64), (.int .i64), (.int .i64), .str]) g54 g55)) p56 
oEnd))) (kCond g56 (kSeq (oSet (xMove q35) p2 
oEnd) kRet) kSkip)) (kSeq (oSet (xMove q6) p2 
oEnd) kRet)))))))⟩
noncomputable def k147 : KFun := ⟨[rTmp (nat_lit 2) g2], (kSeq (oSet (xMove q6) p2 
oEnd) (kSeq (kSeq (oSet (xMove g0) p4 
(oSet (xLook (lkBin .lss g4 q6)) p5 
oEnd)) (kCond g5 (kSeq (oSet (xMove q6) p2 
oEnd) kRet) kSkip)) (kSeq (oSet (xMove q16) p3 
oEnd) (kSeq (kSeq (oSet (xMove g0) p6 
(oSet (xLook (lkBin .shr g6 q245)) p7 
(oSet (xMove g7) p0 
oEnd))) (kBlock (nat_lit 0) (kLoop (kSeq (kSeq (oSet (xMove g0) p8 
(oSet (xLook (lkBin .gtr g8 q6)) p9 
oEnd)) (kCond g9 kSkip (kExit (nat_lit 0)))) (kSeq (kBlock (nat_lit 1) (oSet (xMove g3) p12 
(oSet (xLook (lkBin .add g12 q16)) p13 
(oSet (xMove g13) p3 
oEnd)))) (oSet (xMove g0) p10 
(oSet (xLook (lkBin .shr g10 q245)) p11 
(oSet (xMove g11) p0 
oEnd)))))))) (kSeq (oSet (xMove g3) p14 
(oSet (xMove g14) p2 
oEnd)) kRet)))))⟩
def q302 : OpdF := kC (.func (.func (nat_lit 236)) ⟨[]⟩ ⟨[]⟩)
noncomputable def k148 : KFun := ⟨[rTmp (nat_lit 2) g2], (kSeq (oSet (xTurn (tnBox g0)) p1 
(oSet (xMove q6) p2 
oEnd)) (kSeq (oSet (xLook (lkLoadN (nat_lit 6) g1)) p6 
(oSet (xCall q302 [g6]) p7 
(oSet (xMove g7) p5 
(oSet (xLook (lkExtract (nat_lit 0) g5)) p8 
(oSet (xLook (lkExtract (nat_lit 1) g5)) p9 
(oSet (xMove g8) p3 
(oSet (xMove g9) p4 
oEnd))))))) (kSeq (oSet (xMove g3) p10 
(oSet (xLook (lkLen .sl g10)) p11 
(oSet (xMove g11) p2 
oEnd))) kRet)))⟩
noncomputable def k151 : KFun := ⟨[rTmp (nat_lit 2) g2], (kSeq (oSet (xMove q0) p2 
oEnd) (kSeq (oSet (xMove g0) p6 
(oSet (xLook (lkBuild q91 [])) p7 
(oSet (xCall q144 [g6, g7]) p8 
(oSet (xMove g8) p5 
(oSet (xLook (lkExtract (nat_lit 0) g5)) p9 
(oSet (xLook (lkExtract (nat_lit 1) g5)) p10 
(oSet (xMove g9) p3 
(oSet (xMove g10) p4 
oEnd)))))))) (kSeq (oSet (xMove g4) p11 
(oSet (xLook (lkEq false .int g11 q16)) p12 
(oSet (xMove g12) p2 
oEnd))) kRet)))⟩
def q304 : OpdF := kC (.func (.func (nat_lit 238)) ⟨[]⟩ ⟨[]⟩)
noncomputable def k152 : KFun := ⟨[rTmp (nat_lit 4) g4], (kSeq (oSet (xMove q0) p4 
oEnd) (kSeq (oSet (xMove g0) p5 
(oSet (xMove g1) p6 
(oSet (xCall q304 [g5, g6]) p7 
(oSet (xLook (lkBin .geq g7 q6)) p8 
(oSet (xMove g8) p4 
oEnd))))) kRet))⟩
def q305 : OpdF := kC (.int .i64 (.ofNat (nat_lit 8000)))
noncomputable def k153 : KFun := ⟨[rTmp (nat_lit 2) g2], (kSeq (oSet (xMove q0) p2 
oEnd) (kSeq (oSet (xMove g0) p3 
(oSet (xLook (lkLen .str g3)) p4 
(oSet (xLook (lkBin .gtr g4 q305)) p5 
(oSet (xMove g5) p2 
oEnd)))) kRet))⟩
def q306 : OpdF := kC (.func (.func (nat_lit 239)) ⟨[]⟩ ⟨[]⟩)
noncomputable def k154 : KFun := ⟨[rTmp (nat_lit 6) g6], (kSeq (oSet (xMove q18) p6 
oEnd) (kSeq (oSet (xMove q18) p7 
oEnd) (kSeq (oSet (xMove q6) p8 
oEnd) (kSeq (kSeq (oSet (xMove g0) p11 
(oSet (xLook (lkLen .sl g11)) p12 
(oSet (xMove q6) p13 
oEnd))) (kBlock (nat_lit 0) (kLoop (kSeq (oSet (xLook (lkBin .lss g13 g12)) p14 
oEnd) (kSeq (kCond g14 kSkip (kExit (nat_lit 0))) (kSeq (kBlock (nat_lit 1) (kSeq (oSet (xMove g13) p15 
(oSet (xLook (lkIxSl (nat_lit 1) g11 g13)) p16 
(oSet (xLook (lkLoad1 g16)) p17 
(oSet (xMove g15) p9 
(oSet (xMove g17) p10 
oEnd))))) (kSeq (oSet (xMove g1) p18 
(oSet (xMove g9) p19 
(oSet (xLook (lkBin .add g19 q16)) p20 
(oSet (xMove g8) p21 
(oSet (xLook (lkBin .sub g20 g21)) p22 
(oSet (xMove g2) p23 
(oSet (xMove g10) p24 
(oSet (xCall g23 [g24]) p25 
(oSet (xCall q306 [g18, g22, g25]) p26 
(oSet (xMove g26) p27 
(oSetIf (wantF g27) (xMove g9) p28 
(oSetIf (wantF g27) (xMove g0) p29 
(oSetIf (wantF g27) (xLook (lkLen .sl g29)) p30 
(oSetIf (wantF g27) (xLook (lkBin .sub g30 q16)) p31 
(oSetIf (wantF g27) (xLook (lkEq false .int g28 g31)) p32 
(oSet (xLook (lkPick g27 q2 g32)) p33 
oEnd)))))))))))))))) (kCond g33 (kSeq (oSet (xMove g7) p34 
(oSet (xMove g0) p35 
(oSet (xMove g8) p36 
(oSet (xMove g9) p37 
(oSet (xLook (lkBin .add g37 q16)) p38 
(oSet (xLook (lkSliceSl (nat_lit 1) g35 (some g36) (some g38) none)) p39 
(oSet (xTurn (tnBuildSlice q28 [((nat_lit 0), (nat_lit 1), g39)] (nat_lit 1))) p40 
(oSet (xTurn (tnAppend (nat_lit 1) g34 g40)) p41 
(oSet (xMove g41) p7 
oEnd))))))))) (oSet (xMove g9) p42 
(oSet (xLook (lkBin .add g42 q16)) p43 
(oSet (xMove g43) p8 
oEnd)))) kSkip)))) (oSet (xLook (lkBin .add g13 q16)) p44 
(oSet (xMove g44) p13 
oEnd)))))))) (kSeq (oSet (xMove g7) p45 
(oSet (xMove g45) p6 
oEnd)) kRet)))))⟩
noncomputable def k155 : KFun := ⟨[rCellN (nat_lit 2) g2 (nat_lit 32)], (kSeq (oSet (xTurn (tnAlloc q91)) p2 
oEnd) (kSeq (oSet (xMove g0) p3 
(oSet (xTurn (tnToBytes g3)) p4 
(oSet (xCall q129 [g4]) p5 
(oDo (xTurn (tnStore (nat_lit 32) g2 g5)) 
oEnd)))) kRet))⟩
def q307 : OpdF := kC (.func (.func (nat_lit 240)) ⟨[]⟩ ⟨[]⟩)
def q308 : List Value := [(.int .u8 (.ofNat (nat_lit 0))), (.int .u8 (.ofNat (nat_lit 0))), (.int .u8 (.ofNat (nat_lit 0))), (.int .u8 (.ofNat (nat_lit 0))), (.int .u8 (.ofNat (nat_lit 0))), (.int .u8 (.ofNat (nat_lit 0))), (.int .u8 (.ofNat (nat_lit 0))), (.int .u8 (.ofNat (nat_lit 0))), (.int .u8 (.ofNat (nat_lit 0))), (.int .u8 (.ofNat (nat_lit 0))), (.int .u8 (.ofNat (nat_lit 0))), (.int .u8 (.ofNat (nat_lit 0))), (.int .u8 (.ofNat (nat_lit 0))), (.int .u8 (.ofNat (nat_lit 0))), (.int .u8 (.ofNat (nat_lit 0))), (.int .u8 (.ofNat (nat_lit 0))), (.int .u8 (.ofNat (nat_lit 0))), (.int .u8 (.ofNat (nat_lit 0))), (.int .u8 (.ofNat (nat_lit 0))), (.int .u8 (.ofNat (nat_lit 0))), (.int .u8 (.ofNat (nat_lit 0))), (.int .u8 (.ofNat (nat_lit 0))), (.int .u8 (.ofNat (nat_lit 0))), (.int .u8 (.ofNat (nat_lit 0))), (.int .u8 (.ofNat (nat_lit 0))), (.int .u8 (.ofNat (nat_lit 0))), (.int .u8 (.ofNat (nat_lit 0))), (.int .u8 (.ofNat (nat_lit 0))), (.int .u8 (.ofNat (nat_lit 0))), (.int .u8 (.ofNat (nat_lit 0))), (.int .u8 (.ofNat (nat_lit 0))), (.int .u8 (.ofNat (nat_lit 0))), (.int .i64 (.ofNat (nat_lit 0)))]
def q309 : OpdF := kC (.func (.func (nat_lit 241)) ⟨[]⟩ ⟨[]⟩)
def q310 : OpdF := kC (.func (.func (nat_lit 242)) ⟨[]⟩ ⟨[]⟩)
noncomputable def k156 : KFun := ⟨[rCellN (nat_lit 4) g4 (nat_lit 32), rTmp (nat_lit 5) g5], (kSeq (oSet (xTurn (tnAlloc q91)) p4 
(oSet (xMove q6) p5 
oEnd)) (kSeq (oSet (xMove q18) p6 
oEnd) (kSeq (kSeq (oSet (xMove g1) p15 
(oSet (xLook (lkLen .sl g15)) p16 
(oSet (xMove q6) p17 
oEnd))) (kBlock (nat_lit 0) (kLoop (kSeq (oSet (xLook (lkBin .lss g17 g16)) p18 
oEnd) (kSeq (kCond g18 kSkip (kExit (nat_lit 0))) (kSeq (kBlock (nat_lit 1) (kSeq (oSet (xLook (lkIxSl (nat_lit 3) g15 g17)) p19 
(oSet (xLook (lkLoadN (nat_lit 3) g19)) p20 
(oSet (xTurn (tnAlloc q197)) p8 
(oDo (xTurn (tnStore (nat_lit 3) g8 g20)) 
oEnd)))) (kSeq (oSet (xLook (lkLoadN (nat_lit 3) g8)) p22 
(oSet (xMove g0) p23 
(oSet (xCall q307 [g22, g23]) p24 
(oSet (xMove g24) p21 
(oSet (xLook (lkExtract (nat_lit 0) g21)) p25 
(oSet (xLook (lkExtract (nat_lit 1) g21)) p26 
(oSet (xTurn (tnAlloc q308)) p9 
(oDo (xTurn (tnStore (nat_lit 33) g9 g25)) 
(oSet (xMove g26) p10 
oEnd))))))))) (kSeq (kSeq (oSet (xMove g10) p27 
(oSet (xLook (lkEq true .int g27 q6)) p28 
oEnd)) (kCond g28 (kSeq (oSet (xLook (lkBuild q91 [])) p29 
(oSet (xMove g10) p30 
(oDo (xTurn (tnStore (nat_lit 32) g4 g29)) 
(oSet (xMove g30) p5 
oEnd)))) kRet) kSkip)) (oSet (xMove g6) p31 
(oSet (xLook (lkLoadN (nat_lit 33) g9)) p32 
(oSet (xTurn (tnBuildSlice q308 [((nat_lit 0), (nat_lit 33), g32)] (nat_lit 1))) p33 
(oSet (xTurn (tnAppend (nat_lit 33) g31 g33)) p34 
(oSet (xMove g34) p6 
oEnd))))))))) (oSet (xLook (lkBin .add g17 q16)) p35 
(oSet (xMove g35) p17 
oEnd)))))))) (kSeq (kSeq (oSet (xMove g6) p36 
(oSet (xLook (lkLen .sl g36)) p37 
(oSet (xLook (lkEq false .int g37 q16)) p38 
oEnd))) (kCond g38 (kSeq (oSet (xMove g6) p39 
(oSet (xLook (lkIxSl (nat_lit 33) g39 q6)) p40 
(oSet (xLook (lkFieldAddr (nat_lit 0) g40)) p41 
(oSet (xLook (lkLoadN (nat_lit 32) g41)) p42 
(oDo (xTurn (tnStore (nat_lit 32) g4 g42)) 
(oSet (xMove q6) p5 
oEnd)))))) kRet) kSkip)) (kSeq (oSet (xMove g1) p43 
(oSet (xLook (lkIxSl (nat_lit 3) g43 q6)) p44 
(oSet (xLook (lkFieldAddr (nat_lit 0) g44)) p45 
(oSet (xLook (lkLoad1 g45)) p46 
(oSet (xLook (lkBin .add g46 q16)) p47 
(oSet (xMove g47) p11 
oEnd)))))) (kSeq (oSet (xMove q18) p12 
oEnd) (kSeq (kSeq (oSet (xMove g6) p48 
(oSet (xMove g11) p49 
(oSet (xCall q309 [g48, g49, q310]) p50 
(oSet (xLook (lkLen .sl g50)) p51 
(oSet (xMove q6) p52 
oEnd))))) (kBlock (nat_lit 2) (kLoop (kSeq (oSet (xLook (lkBin .lss g52 g51)) p53 
oEnd) (kSeq (kCond g53 kSkip (kExit (nat_lit 2))) (kSeq (kBlock (nat_lit 3) (kSeq (oSet (xLook (lkIxSl (nat_lit 1) g50 g52)) p54 
(oSet (xLook (lkLoad1 g54)) p55 
(oSet (xMove g55) p14 
oEnd))) (oSet (xMove g12) p56 
(oSet (xMove g11) p57 
(oSet (xMove g14) p58 
(oSet (xLook (lkBuild q197 [((nat_lit 0), (nat_lit 1), g57), ((nat_lit 2), (nat_lit 1), g58)])) p59 
(oSet (xTurn (tnBuildSlice q197 [((nat_lit 0), (nat_lit 3), g59)] (nat_lit 1))) p60 
(oSet (xTurn (tnAppend (nat_lit 3) g56 g60)) p61 
(oSet (xMove g61) p12 
oEnd))))))))) (oSet (xLook (lkBin .add g52 q16)) p62 
(oSet (xMove g62) p52 
oEnd)))))))) (kSeq (oSet (xMove g0) p63 
(oSet (xMove g12) p64 
(oSet (xCall q198 [g63, g64]) p65 
(oSet (xLook (lkExtract (nat_lit 0) g65)) p66 
(oSet (xLook (lkExtract (nat_lit 1) g65)) p67 
(oDo (xTurn (tnStore (nat_lit 32) g4 g66)) 
(oSet (xMove g67) p5 
oEnd))))))) kRet))))))))⟩
def q311 : OpdF := kC (.func (.func (nat_lit 243)) ⟨[]⟩ ⟨[]⟩)
noncomputable def k157 : KFun := ⟨[rTmp (nat_lit 2) g2, rTmp (nat_lit 3) g3], (kSeq (oSet (xMove q18) p2 
(oSet (xMove q6) p3 
oEnd)) (kSeq (kSeq (oSet (xMove g0) p14 
(oSet (xCall q81 [g14]) p15 
(oSet (xMove g15) p13 
(oSet (xLook (lkExtract (nat_lit 0) g13)) p16 
(oSet (xLook (lkExtract (nat_lit 1) g13)) p17 
(oSet (xMove g16) p4 
(oSet (xMove g17) p5 
oEnd))))))) (kSeq (oSet (xMove g4) p18 
(oSet (xLook (lkEq true .int g18 q6)) p19 
oEnd)) (kCond g19 (kSeq (oSet (xMove g4) p20 
(oSet (xMove q18) p2 
(oSet (xMove g20) p3 
oEnd))) kRet) kSkip))) (kSeq (oSet (xCall q122 []) p21 
(oSet (xMove g21) p6 
oEnd)) (kSeq (oSet (xMove g6) p22 
(oSet (xMove g0) p23 
(oSet (xLook (lkLen .sl g23)) p24 
(oSet (xCall q123 [g22, g24]) p25 
oEnd)))) (kSeq (oSet (xMove g6) p27 
(oSet (xCall q126 [g27]) p28 
(oSet (xMove g28) p26 
(oSet (xLook (lkExtract (nat_lit 0) g26)) p29 
(oSet (xLook (lkExtract (nat_lit 1) g26)) p30 
(oSet (xMove g29) p7 
(oSet (xMove g30) p8 
oEnd))))))) (kSeq (kSeq (oSet (xMove g0) p31 
(oSet (xLook (lkLen .sl g31)) p32 
(oSet (xMove q6) p33 
oEnd))) (kBlock (nat_lit 0) (kLoop (kSeq (oSet (xLook (lkBin .lss g33 g32)) p34 
oEnd) (kSeq (kCond g34 kSkip (kExit (nat_lit 0))) (kSeq (kBlock (nat_lit 1) (kSeq (oSet (xLook (lkIxSl (nat_lit 6) g31 g33)) p35 
(oSet (xLook (lkLoadN (nat_lit 6) g35)) p36 
(oSet (xTurn (tnAlloc q148)) p10 
(oDo (xTurn (tnStore (nat_lit 6) g10 g36)) 
oEnd)))) (kSeq (oSet (xLook (lkLoadN (nat_lit 6) g10)) p38 
(oSet (xCall q302 [g38]) p39 
(oSet (xMove g39) p37 
(oSet (xLook (lkExtract (nat_lit 0) g37)) p40 
(oSet (xLook (lkExtract (nat_lit 1) g37)) p41 
(oSet (xMove g40) p11 
(oSet (xMove g41) p12 
oEnd))))))) (oSet (xMove g7) p42 
(oSet (xMove g11) p43 
(oSet (xTurn (tnBuildSlice q51 [((nat_lit 0), (nat_lit 1), g42), ((nat_lit 1), (nat_lit 1), g43)] (nat_lit 2))) p44 
(oSet (xCall q311 [g44]) p45 
(oSet (xMove g45) p7 
oEnd)))))))) (oSet (xLook (lkBin .add g33 q16)) p46 
(oSet (xMove g46) p33 
oEnd)))))))) (kSeq (oSet (xMove g7) p47 
(oSet (xMove g47) p2 
(oSet (xMove q6) p3 
oEnd))) kRet)))))))⟩
noncomputable def k158 : KFun := ⟨[rTmp (nat_lit 2) g2], (kSeq (oSet (xMove q0) p2 
oEnd) (kSeq (oSet (xMove g0) p6 
(oSet (xLook (lkBuild q91 [])) p7 
(oSet (xCall q144 [g6, g7]) p8 
(oSet (xMove g8) p5 
(oSet (xLook (lkExtract (nat_lit 0) g5)) p9 
(oSet (xLook (lkExtract (nat_lit 1) g5)) p10 
(oSet (xMove g9) p3 
(oSet (xMove g10) p4 
oEnd)))))))) (kSeq (oSet (xMove g4) p11 
(oSet (xLook (lkEq true .int g11 q16)) p12 
(oSet (xMove g12) p2 
oEnd))) kRet)))⟩
noncomputable def k159 : KFun := ⟨[rTmp (nat_lit 4) g4, rTmp (nat_lit 5) g5], (kSeq (oSet (xMove q18) p4 
(oSet (xMove q6) p5 
oEnd)) (kSeq (oSet (xMove q18) p6 
oEnd) (kSeq (kSeq (oSet (xMove g0) p11 
(oSet (xLook (lkLen .sl g11)) p12 
(oSet (xMove q6) p13 
oEnd))) (kBlock (nat_lit 0) (kLoop (kSeq (oSet (xLook (lkBin .lss g13 g12)) p14 
oEnd) (kSeq (kCond g14 kSkip (kExit (nat_lit 0))) (kSeq (kBlock (nat_lit 1) (kSeq (oSet (xLook (lkIxSl (nat_lit 5) g11 g13)) p15 
(oSet (xLook (lkLoadN (nat_lit 5) g15)) p16 
(oSet (xTurn (tnAlloc q68)) p8 
(oDo (xTurn (tnStore (nat_lit 5) g8 g16)) 
oEnd)))) (kSeq (oSet (xMove g1) p18 
(oSet (xLook (lkLoadN (nat_lit 5) g8)) p19 
(oSet (xCall g18 [g19]) p20 
(oSet (xMove g20) p17 
(oSet (xLook (lkExtract (nat_lit 0) g17)) p21 
(oSet (xLook (lkExtract (nat_lit 1) g17)) p22 
(oSet (xMove g21) p9 
(oSet (xMove g22) p10 
oEnd)))))))) (kSeq (kSeq (oSet (xMove g10) p23 
(oSet (xLook (lkEq true .int g23 q6)) p24 
oEnd)) (kCond g24 (kSeq (oSet (xMove g10) p25 
(oSet (xMove q18) p4 
(oSet (xMove g25) p5 
oEnd))) kRet) kSkip)) (oSet (xMove g6) p26 
(oSet (xMove g9) p27 
(oSet (xLook (lkBytesTo g27)) p28 
(oSet (xTurn (tnBuildSlice q200 [((nat_lit 0), (nat_lit 1), g28)] (nat_lit 1))) p29 
(oSet (xTurn (tnAppend (nat_lit 1) g26 g29)) p30 
(oSet (xMove g30) p6 
oEnd)))))))))) (oSet (xLook (lkBin .add g13 q16)) p31 
(oSet (xMove g31) p13 
oEnd)))))))) (kSeq (oSet (xMove g6) p32 
(oSet (xMove g32) p4 
(oSet (xMove q6) p5 
oEnd))) kRet))))⟩
def q312 : OpdF := kC (.func (.func (nat_lit 244)) ⟨[]⟩ ⟨[]⟩)
def q313 : OpdF := kC (.func (.func (nat_lit 245)) ⟨[]⟩ ⟨[]⟩)
def q314 : OpdF := kC (.func (.func (nat_lit 247)) ⟨[]⟩ ⟨[]⟩)
noncomputable def k160 : KFun := ⟨[rTmp (nat_lit 2) g2, rTmp (nat_lit 3) g3], (kSeq (oSet (xTurn (tnBox g0)) p1 
(oSet (xMove q18) p2 
(oSet (xMove q6) p3 
oEnd))) (kSeq (kSeq (oSet (xLook (lkLoadN (nat_lit 5) g1)) p6 
(oSet (xCall q69 [g6]) p7 
(oSet (xMove g7) p4 
oEnd))) (kSeq (oSet (xMove g4) p8 
(oSet (xLook (lkEq true .int g8 q6)) p9 
oEnd)) (kCond g9 (kSeq (oSet (xMove g4) p10 
(oSet (xMove q18) p2 
(oSet (xMove g10) p3 
oEnd))) kRet) kSkip))) (kSeq (oSet (xCall q122 []) p11 
(oSet (xLook (lkBuild q46 [((nat_lit 0), (nat_lit 1), g11)])) p12 
(oSet (xTurn (tnAlloc q46)) p5 
(oDo (xTurn (tnStore (nat_lit 1) g5 g12)) 
oEnd)))) (kSeq (oSet (xLook (lkFieldAddr (nat_lit 0) g5)) p13 
(oSet (xLook (lkLoad1 g13)) p14 
(oSet (xLook (lkFieldAddr (nat_lit 0) g1)) p15 
(oSet (xLook (lkLoad1 g15)) p16 
(oSet (xCall q123 [g14, g16]) p17 
oEnd))))) (kSeq (oSet (xLook (lkFieldAddr (nat_lit 0) g5)) p18 
(oSet (xLook (lkLoad1 g18)) p19 
(oSet (xLook (lkFieldAddr (nat_lit 1) g1)) p20 
(oSet (xLook (lkLoad1 g20)) p21 
(oSet (xCall q123 [g19, g21]) p22 
oEnd))))) (kSeq (oSet (xLook (lkLoadN (nat_lit 1) g5)) p23 
(oSet (xLook (lkFieldAddr (nat_lit 2) g1)) p24 
(oSet (xLook (lkLoad1 g24)) p25 
(oSet (xLook (lkFieldAddr (nat_lit 0) g5)) p26 
(oSet (xLook (lkLoad1 g26)) p27 
(oSet (xLook (lkMkFunc (.func (nat_lit 102)) [g27] [])) p28 
(oSet (xCall q312 [g23, g25, g28]) p29 
oEnd))))))) (kSeq (oSet (xLook (lkLoadN (nat_lit 1) g5)) p30 
(oSet (xLook (lkFieldAddr (nat_lit 3) g1)) p31 
(oSet (xLook (lkLoad1 g31)) p32 
(oSet (xLook (lkLoadN (nat_lit 1) g5)) p33 
(oSet (xLook (lkMkFunc (.func (nat_lit 246)) [g33] [])) p34 
(oSet (xCall q313 [g30, g32, g34]) p35 
oEnd)))))) (kSeq (oSet (xLook (lkLoadN (nat_lit 1) g5)) p36 
(oSet (xLook (lkFieldAddr (nat_lit 4) g1)) p37 
(oSet (xLook (lkLoad1 g37)) p38 
(oSet (xLook (lkLoadN (nat_lit 1) g5)) p39 
(oSet (xLook (lkMkFunc (.func (nat_lit 248)) [g39] [])) p40 
(oSet (xCall q314 [g36, g38, g40]) p41 
oEnd)))))) (kSeq (oSet (xLook (lkFieldAddr (nat_lit 0) g5)) p42 
(oSet (xLook (lkLoad1 g42)) p43 
(oSet (xCall q126 [g43]) p44 
(oSet (xLook (lkExtract (nat_lit 0) g44)) p45 
(oSet (xLook (lkExtract (nat_lit 1) g44)) p46 
(oSet (xMove g45) p2 
(oSet (xMove g46) p3 
oEnd))))))) kRet)))))))))⟩
noncomputable def k161 : KFun := ⟨[rTmp (nat_lit 2) g2], (kSeq (oSet (xMove q0) p2 
oEnd) (kSeq (oSet (xMove g0) p3 
(oSet (xLook (lkBin .geq g3 q6)) p4 
(oSet (xMove g4) p5 
(oSetIf (wantT g5) (xMove g0) p6 
(oSetIf (wantT g5) (xLook (lkBin .leq g6 q82)) p7 
(oSet (xLook (lkPick g5 g7 q0)) p8 
(oSet (xMove g8) p2 
oEnd))))))) kRet))⟩
def q315 : OpdF := kC (.func (.func (nat_lit 249)) ⟨[]⟩ ⟨[]⟩)
noncomputable def k162 : KFun := ⟨[rTmp (nat_lit 0) g0], (kSeq (oSet (xMove q225) p0 
oEnd) (kSeq (oSet (xMove q315) p0 
oEnd) kRet))⟩
noncomputable def k163 : KFun := ⟨[], (kSeq (oSet (xMove g0) p4 
(oSet (xNil g4) p5 
(oSet (xLook (lkFieldAddr (nat_lit 1) g5)) p6 
(oSet (xLook (lkLoad1 g6)) p7 
(oSet (xLook (lkEq false .int g7 q6)) p8 
oEnd))))) (kCond g8 (oSet (xMove g0) p10 
(oSet (xMove g0) p11 
(oSet (xMove g0) p12 
(oSet (xNil g12) p13 
(oSet (xLook (lkFieldAddr (nat_lit 0) g13)) p14 
(oSet (xLook (lkLoad1 g14)) p15 
(oSet (xMove g1) p16 
(oSet (xCall q176 [g15, g16]) p17 
(oSet (xMove g17) p9 
(oSet (xLook (lkExtract (nat_lit 0) g9)) p18 
(oSet (xLook (lkExtract (nat_lit 1) g9)) p19 
(oSet (xNil g10) p20 
(oSet (xLook (lkFieldAddr (nat_lit 0) g20)) p21 
(oDo (xTurn (tnStore (nat_lit 1) g21 g18)) 
(oSet (xNil g11) p22 
(oSet (xLook (lkFieldAddr (nat_lit 1) g22)) p23 
(oDo (xTurn (tnStore (nat_lit 1) g23 g19)) 
oEnd))))))))))))))))) kSkip))⟩
def q317 : OpdF := kC (.int .i64 (.ofNat (nat_lit 70)))
noncomputable def k165 : KFun := ⟨[rTmp (nat_lit 2) g2], (kSeq (oSet (xTurn (tnBox g0)) p1 
(oSet (xMove q0) p2 
oEnd)) (kSeq (kSeq (oSet (xLook (lkFieldAddr (nat_lit 0) g1)) p6 
(oSet (xLook (lkLoad1 g6)) p7 
(oSet (xCall q34 [g7]) p8 
(oSet (xLook (lkUn .not g8)) p9 
(oSet (xMove g9) p10 
(oSetIf (wantF g10) (xLook (lkFieldAddr (nat_lit 65) g1)) p11 
(oSetIf (wantF g10) (xLook (lkLoad1 g11)) p12 
(oSetIf (wantF g10) (xLook (lkBin .lss g12 q6)) p13 
(oSet (xLook (lkPick g10 q2 g13)) p14 
(oSet (xMove g14) p15 
(oSetIf (wantF g15) (xLook (lkFieldAddr (nat_lit 65) g1)) p16 
(oSetIf (wantF g15) (xLook (lkLoad1 g16)) p17 
(oSetIf (wantF g15) (xLook (lkBin .gtr g17 q82)) p18 
(oSet (xLook (lkPick g15 q2 g18)) p19 
(oSet (xMove g19) p20 
(oSetIf (wantF g20) (xLook (lkFieldAddr (nat_lit 66) g1)) p21 
(oSetIf (wantF g20) (xLook (lkLoad1 g21)) p22 
(oSetIf (wantF g20) (xLook (lkLen .sl g22)) p23 
(oSetIf (wantF g20) (xLook (lkBin .gtr g23 q317)) p24 
(oSet (xLook (lkPick g20 q2 g24)) p25 
oEnd)))))))))))))))))))) (kCond g25 (kSeq (oSet (xMove q0) p2 
oEnd) kRet) kSkip)) (kSeq (oSet (xMove q269) p3 
oEnd) (kSeq (kSeq (oSet (xLook (lkFieldAddr (nat_lit 66) g1)) p26 
(oSet (xLook (lkLoad1 g26)) p27 
(oSet (xLook (lkLen .sl g27)) p28 
(oSet (xMove q6) p29 
oEnd)))) (kBlock (nat_lit 0) (kLoop (kSeq (oSet (xLook (lkBin .lss g29 g28)) p30 
oEnd) (kSeq (kCond g30 kSkip (kExit (nat_lit 0))) (kSeq (kBlock (nat_lit 1) (kSeq (oSet (xLook (lkIxSl (nat_lit 33) g27 g29)) p31 
(oSet (xLook (lkLoadN (nat_lit 33) g31)) p32 
(oSet (xTurn (tnAlloc q92)) p5 
(oDo (xTurn (tnStore (nat_lit 33) g5 g32)) 
oEnd)))) (kSeq (kSeq (oSet (xLook (lkFieldAddr (nat_lit 0) g5)) p33 
(oSet (xLook (lkLoad1 g33)) p34 
(oSet (xMove g3) p35 
(oSet (xLook (lkBin .leq g34 g35)) p36 
(oSet (xMove g36) p37 
(oSetIf (wantF g37) (xLook (lkFieldAddr (nat_lit 0) g5)) p38 
(oSetIf (wantF g37) (xLook (lkLoad1 g38)) p39 
(oSetIf (wantF g37) (xLook (lkFieldAddr (nat_lit 65) g1)) p40 
(oSetIf (wantF g37) (xLook (lkLoad1 g40)) p41 
(oSetIf (wantF g37) (xLook (lkBin .gtr g39 g41)) p42 
(oSet (xLook (lkPick g37 q2 g42)) p43 
oEnd))))))))))) (kCond g43 (kSeq (oSet (xMove q0) p2 
oEnd) kRet) kSkip)) (oSet (xLook (lkFieldAddr (nat_lit 0) g5)) p44 
(oSet (xLook (lkLoad1 g44)) p45 
(oSet (xMove g45) p3 
oEnd)))))) (oSet (xLook (lkBin .add g29 q16)) p46 
(oSet (xMove g46) p29 
oEnd)))))))) (kSeq (oSet (xMove q2) p2 
oEnd) kRet)))))⟩
def q318 : OpdF := kC (.func (.func (nat_lit 255)) ⟨[]⟩ ⟨[]⟩)
def q319 : OpdF := kC (.func (.func (nat_lit 256)) ⟨[]⟩ ⟨[]⟩)
noncomputable def k166 : KFun := ⟨[rTmp (nat_lit 6) g6], (kSeq (oSet (xMove q18) p6 
oEnd) (kSeq (oSet (xMove g0) p10 
(oSet (xMove g1) p11 
(oSet (xLook (lkSliceSl (nat_lit 67) g10 (some g11) none none)) p12 
oEnd))) (kSeq (oSet (xMove g2) p13 
(oSet (xLook (lkLen .sl g13)) p14 
(oSet (xMove g14) p7 
oEnd))) (kSeq (kSeq (oSet (xMove g7) p15 
(oSet (xLook (lkEq false .int g15 q6)) p16 
oEnd)) (kCond g16 (kSeq (oSet (xMove g0) p17 
(oSet (xMove g17) p6 
oEnd)) kRet) kSkip)) (kSeq (oSet (xMove g0) p18 
(oSet (xLook (lkLen .sl g18)) p19 
(oSet (xMove g19) p8 
oEnd))) (kSeq (kSeq (oSet (xMove g1) p20 
(oSet (xMove g8) p21 
(oSet (xLook (lkEq false .int g20 g21)) p22 
oEnd))) (kCond g22 (kSeq (oSet (xMove g0) p23 
(oSet (xMove g2) p24 
(oSet (xTurn (tnAppend (nat_lit 67) g23 g24)) p25 
(oSet (xMove g25) p6 
oEnd)))) kRet) kSkip)) (kSeq (kSeq (oSet (xMove g8) p26 
(oSet (xMove g7) p27 
(oSet (xLook (lkBin .add g26 g27)) p28 
(oSet (xMove g0) p29 
(oSet (xLook (lkCap g29)) p30 
(oSet (xLook (lkBin .gtr g28 g30)) p31 
oEnd)))))) (kCond g31 (kSeq (oSet (xMove g0) p32 
(oSet (xMove g1) p33 
(oSet (xLook (lkSliceSl (nat_lit 67) g32 none (some g33) none)) p34 
(oSet (xMove g8) p35 
(oSet (xMove g7) p36 
(oSet (xLook (lkBin .add g35 g36)) p37 
(oSet (xMove g1) p38 
(oSet (xLook (lkBin .sub g37 g38)) p39 
(oSet (xTurn (tnAppendZ q14 g34 g39)) p40 
(oSet (xMove g40) p9 
oEnd)))))))))) (kSeq (oSet (xMove g9) p41 
(oSet (xMove g1) p42 
(oSet (xLook (lkSliceSl (nat_lit 67) g41 (some g42) none none)) p43 
(oSet (xMove g2) p44 
(oSet (xTurn (tnCopy (nat_lit 67) g43 g44)) p45 
oEnd))))) (kSeq (kDraw 
(dLook (nat_lit 0) [] [] (lkMove g9) p46 
(dLook (nat_lit 1) [] [] (lkMove g1) p47 
(dLook (nat_lit 2) [] [] (lkMove g7) p48 
(dLook (nat_lit 3) [] [] (lkBin .add g47 g48) p49 
(dLook (nat_lit 4) [] [] (lkSliceSl (nat_lit 67) g46 (some g49) none none) p50 
(dLook (nat_lit 5) [] [] (lkMove g0) p51 
(dLook (nat_lit 6) [] [] (lkMove g1) p52 
(dLook (nat_lit 7) [] [] (lkSliceSl (nat_lit 67) g51 (some g52) none none) p53 
(dTurn (nat_lit 8) [] [] true (xTurn (tnCopy (nat_lit 67) g50 g53)) p54 (dEnd [(nat_lit 46), (nat_lit 47), (nat_lit 48), (nat_lit 49), (nat_lit 50), (nat_lit 51), (nat_lit 52), (nat_lit 53), (nat_lit 54)]))))))))))) (kSeq (oSet (xMove g9) p55 
(oSet (xMove g55) p6 
oEnd)) kRet)))) kSkip)) (kSeq (oSet (xMove g0) p56 
(oSet (xMove g8) p57 
(oSet (xMove g7) p58 
(oSet (xLook (lkBin .add g57 g58)) p59 
(oSet (xLook (lkSliceSl (nat_lit 67) g56 none (some g59) none)) p60 
(oSet (xMove g60) p0 
oEnd)))))) (kSeq (kSeq (oSet (xMove g2) p61 
(oSet (xMove g0) p62 
(oSet (xMove g1) p63 
(oSet (xMove g7) p64 
(oSet (xLook (lkBin .add g63 g64)) p65 
(oSet (xLook (lkSliceSl (nat_lit 67) g62 (some g65) none none)) p66 
(oSet (xCall q318 [g61, g66]) p67 
(oSet (xLook (lkUn .not g67)) p68 
oEnd)))))))) (kCond g68 (kSeq (kDraw 
(dLook (nat_lit 0) [] [] (lkMove g0) p69 
(dLook (nat_lit 1) [] [] (lkMove g1) p70 
(dLook (nat_lit 2) [] [] (lkMove g7) p71 
(dLook (nat_lit 3) [] [] (lkBin .add g70 g71) p72 
(dLook (nat_lit 4) [] [] (lkSliceSl (nat_lit 67) g69 (some g72) none none) p73 
(dLook (nat_lit 5) [] [] (lkMove g0) p74 
(dLook (nat_lit 6) [] [] (lkMove g1) p75 
(dLook (nat_lit 7) [] [] (lkSliceSl (nat_lit 67) g74 (some g75) none none) p76 
(dTurn (nat_lit 8) [] [] true (xTurn (tnCopy (nat_lit 67) g73 g76)) p77 (dEnd [(nat_lit 69), (nat_lit 70), (nat_lit 71), (nat_lit 72), (nat_lit 73), (nat_lit 74), (nat_lit 75), (nat_lit 76), (nat_lit 77)]))))))))))) (kSeq (oSet (xMove g0) p78 
(oSet (xMove g1) p79 
(oSet (xLook (lkSliceSl (nat_lit 67) g78 (some g79) none none)) p80 
(oSet (xMove g2) p81 
(oSet (xTurn (tnCopy (nat_lit 67) g80 g81)) p82 
oEnd))))) (kSeq (oSet (xMove g0) p83 
(oSet (xMove g83) p6 
oEnd)) kRet))) kSkip)) (kSeq (oSet (xMove g0) p84 
(oSet (xMove g8) p85 
(oSet (xLook (lkSliceSl (nat_lit 67) g84 (some g85) none none)) p86 
(oSet (xMove g2) p87 
(oSet (xTurn (tnCopy (nat_lit 67) g86 g87)) p88 
oEnd))))) (kSeq (oSet (xMove g0) p89 
(oSet (xMove g1) p90 
(oSet (xLook (lkSliceSl (nat_lit 67) g89 (some g90) none none)) p91 
(oSet (xMove g7) p92 
(oSet (xCall q319 [g91, g92]) p93 
oEnd))))) (kSeq (oSet (xMove g0) p94 
(oSet (xMove g94) p6 
oEnd)) kRet))))))))))))⟩
def q320 : OpdF := kC (.func (.func (nat_lit 257)) ⟨[]⟩ ⟨[]⟩)
def q321 : OpdF := kC (.func (.func (nat_lit 258)) ⟨[]⟩ ⟨[]⟩)
def q322 : OpdF := kC (.func (.func (nat_lit 259)) ⟨[]⟩ ⟨[]⟩)
noncomputable def k167 : KFun := ⟨[rTmp (nat_lit 4) g4], (kSeq (oSet (xTurn (tnBox g0)) p2 
(oSet (xTurn (tnBox g1)) p3 
(oSet (xMove q18) p4 
oEnd))) (kSeq (kSeq (oSet (xLook (lkLoad1 g2)) p7 
(oSet (xCall q320 [g7, q82]) p8 
(oSet (xLook (lkEq true .int g8 q6)) p9 
oEnd))) (kCond g9 (kSeq (oSet (xMove q18) p4 
oEnd) kRet) kSkip)) (kSeq (oSet (xTurn (tnAlloc q32)) p5 
(oDo (xTurn (tnStore (nat_lit 1) g5 q321)) 
oEnd)) (kSeq (oSet (xLook (lkLoad1 g2)) p10 
(oSet (xLook (lkLen .sl g10)) p11 
(oSet (xLook (lkMkFunc (.func (nat_lit 260)) [] [g5, g2, g3])) p12 
(oSet (xCall q322 [g11, g12]) p13 
(oSet (xMove g13) p6 
oEnd))))) (kSeq (oSet (xLook (lkLoad1 g2)) p14 
(oSet (xMove g6) p15 
(oSet (xLook (lkSliceSl (nat_lit 33) g14 none (some g15) none)) p16 
(oSet (xCall q44 [g16]) p17 
(oSet (xMove g17) p4 
oEnd))))) kRet)))))⟩
noncomputable def k169 : KFun := ⟨[rTmp (nat_lit 4) g4], (kSeq (oSet (xTurn (tnBox g0)) p2 
(oSet (xTurn (tnBox g1)) p3 
(oSet (xMove q225) p4 
oEnd))) (kSeq (oSet (xLook (lkMkFunc (.func (nat_lit 262)) [] [g2, g3])) p5 
(oSet (xMove g5) p4 
oEnd)) kRet))⟩
def q326 : OpdF := kC (.int .i64 (.ofNat (nat_lit 12)))
def q335 : OpdF := kC (.func (.func (nat_lit 273)) ⟨[]⟩ ⟨[]⟩)
def q336 : OpdF := kC (.func (.func (nat_lit 274)) ⟨[]⟩ ⟨[]⟩)
noncomputable def k171 : KFun := ⟨[rTmp (nat_lit 2) g2], (kSeq (oSet (xMove q6) p2 
oEnd) (kSeq (kCond q0 (kSeq (oSet (xMove g0) p3 
(oSet (xLook (lkIntTo .u32 g3)) p4 
(oSet (xCall q335 [g4]) p5 
(oSet (xMove g5) p2 
oEnd)))) kRet) kSkip) (kSeq (oSet (xMove g0) p6 
(oSet (xCall q336 [g6]) p7 
(oSet (xMove g7) p2 
oEnd))) kRet)))⟩
def q344 : OpdF := kC (.int .u64 (.ofNat (nat_lit 1)))
noncomputable def k176 : KFun := ⟨[rTmp (nat_lit 6) g6, rTmp (nat_lit 7) g7], (kSeq (oSet (xMove q6) p6 
(oSet (xMove q0) p7 
oEnd)) (kSeq (oSet (xMove g0) p12 
(oSet (xLook (lkLen .sl g12)) p13 
(oSet (xMove g13) p8 
oEnd))) (kSeq (oSet (xMove g8) p14 
(oSet (xMove q6) p9 
(oSet (xMove g14) p10 
oEnd))) (kSeq (kBlock (nat_lit 0) (kLoop (kSeq (kSeq (oSet (xMove g9) p15 
(oSet (xMove g10) p16 
(oSet (xLook (lkBin .lss g15 g16)) p17 
oEnd))) (kCond g17 kSkip (kExit (nat_lit 0)))) (kBlock (nat_lit 1) (kSeq (oSet (xMove g9) p18 
(oSet (xMove g10) p19 
(oSet (xLook (lkBin .add g18 g19)) p20 
(oSet (xLook (lkIntTo .u64 g20)) p21 
(oSet (xLook (lkBin .shr g21 q344)) p22 
(oSet (xLook (lkIntTo .i64 g22)) p23 
(oSet (xMove g23) p11 
oEnd))))))) (kSeq (oSet (xMove g2) p24 
(oSet (xMove g0) p25 
(oSet (xMove g11) p26 
(oSet (xLook (lkIxSl (nat_lit 67) g25 g26)) p27 
(oSet (xLook (lkLoadN (nat_lit 67) g27)) p28 
(oSet (xMove g1) p29 
(oSet (xCall g24 [g28, g29]) p30 
(oSet (xLook (lkBin .lss g30 q6)) p31 
oEnd)))))))) (kCond g31 (oSet (xMove g11) p32 
(oSet (xLook (lkBin .add g32 q16)) p33 
(oSet (xMove g33) p9 
oEnd))) (oSet (xMove g11) p34 
(oSet (xMove g34) p10 
oEnd))))))))) (kSeq (oSet (xMove g9) p35 
(oSet (xMove g9) p36 
(oSet (xMove g8) p37 
(oSet (xLook (lkBin .lss g36 g37)) p38 
(oSet (xMove g38) p39 
(oSetIf (wantT g39) (xMove g2) p40 
(oSetIf (wantT g39) (xMove g0) p41 
(oSetIf (wantT g39) (xMove g9) p42 
(oSetIf (wantT g39) (xLook (lkIxSl (nat_lit 67) g41 g42)) p43 
(oSetIf (wantT g39) (xLook (lkLoadN (nat_lit 67) g43)) p44 
(oSetIf (wantT g39) (xMove g1) p45 
(oSetIf (wantT g39) (xCall g40 [g44, g45]) p46 
(oSetIf (wantT g39) (xLook (lkEq false .int g46 q6)) p47 
(oSet (xLook (lkPick g39 g47 q0)) p48 
(oSet (xMove g35) p6 
(oSet (xMove g48) p7 
oEnd)))))))))))))))) kRet)))))⟩
def q345 : OpdF := kC (.func (.func (nat_lit 178)) ⟨[]⟩ ⟨[]⟩)
noncomputable def k177 : KFun := ⟨[rTmp (nat_lit 4) g4], (kSeq (oSet (xTurn (tnBox g0)) p2 
(oSet (xMove q6) p4 
oEnd)) (kSeq (oSet (xLook (lkFieldAddr (nat_lit 0) g2)) p5 
(oSet (xLook (lkLoad1 g5)) p6 
(oSet (xMove g1) p7 
(oSet (xCall q345 [g6, g7]) p8 
(oSet (xMove g8) p4 
oEnd))))) kRet))⟩
def q346 : OpdF := kC (.func (.func (nat_lit 279)) ⟨[]⟩ ⟨[]⟩)
noncomputable def k178 : KFun := ⟨[rTmp (nat_lit 4) g4], (kSeq (oSet (xMove q6) p4 
oEnd) (kSeq (oSet (xMove g0) p5 
(oSet (xMove g1) p6 
(oSet (xCall q346 [g5, g6]) p7 
(oSet (xMove g7) p4 
oEnd)))) kRet))⟩
noncomputable def k181 : KFun := ⟨[rCellN (nat_lit 2) g2 (nat_lit 256), rTmp (nat_lit 3) g3], (kSeq (oSet (xTurn (tnAlloc q232)) p2 
(oSet (xMove q0) p3 
oEnd)) (kSeq (kSeq (oSet (xMove q6) p4 
oEnd) (kBlock (nat_lit 0) (kLoop (kSeq (kSeq (oSet (xMove g4) p6 
(oSet (xMove g0) p7 
(oSet (xLook (lkLen .str g7)) p8 
(oSet (xLook (lkBin .lss g6 g8)) p9 
oEnd)))) (kCond g9 kSkip (kExit (nat_lit 0)))) (kSeq (kBlock (nat_lit 1) (kSeq (oSet (xMove g0) p12 
(oSet (xMove g4) p13 
(oSet (xLook (lkIxStr g12 g13)) p14 
(oSet (xMove g14) p5 
oEnd)))) (kSeq (kSeq (oSet (xMove g5) p15 
(oSet (xLook (lkBin .geq g15 q228)) p16 
oEnd)) (kCond g16 (kSeq (oSet (xLook (lkLoadN (nat_lit 256) g2)) p17 
(oDo (xTurn (tnStore (nat_lit 256) g2 g17)) 
(oSet (xMove q0) p3 
oEnd))) kRet) kSkip)) (oSet (xMove g5) p18 
(oSet (xLook (lkIxArr (nat_lit 256) (nat_lit 1) g2 g18)) p19 
(oDo (xTurn (tnStore (nat_lit 1) g19 q2)) 
oEnd)))))) (oSet (xMove g4) p10 
(oSet (xLook (lkBin .add g10 q16)) p11 
(oSet (xMove g11) p4 
oEnd)))))))) (kSeq (oSet (xLook (lkLoadN (nat_lit 256) g2)) p20 
(oDo (xTurn (tnStore (nat_lit 256) g2 g20)) 
(oSet (xMove q2) p3 
oEnd))) kRet)))⟩
def q347 : OpdF := kC (.func (.func (nat_lit 280)) ⟨[]⟩ ⟨[]⟩)
noncomputable def k182 : KFun := ⟨[rTmp (nat_lit 4) g4], (kSeq (oSet (xMove q111) p4 
oEnd) (kSeq (kBlock (nat_lit 0) (kLoop (kSeq (kSeq (oSet (xMove g0) p5 
(oSet (xLook (lkLen .str g5)) p6 
(oSet (xLook (lkBin .gtr g6 q6)) p7 
oEnd))) (kCond g7 kSkip (kExit (nat_lit 0)))) (kBlock (nat_lit 1) (kSeq (kSeq (oSet (xMove g1) p8 
(oSet (xMove g0) p9 
(oSet (xLook (lkIxStr g9 q6)) p10 
(oSet (xCall q347 [g8, g10]) p11 
(oSet (xLook (lkUn .not g11)) p12 
oEnd))))) (kCond g12 (kExit (nat_lit 0)) kSkip)) (oSet (xMove g0) p13 
(oSet (xLook (lkSliceStr g13 (some q16) none)) p14 
(oSet (xMove g14) p0 
oEnd)))))))) (kSeq (oSet (xMove g0) p15 
(oSet (xMove g15) p4 
oEnd)) kRet)))⟩
noncomputable def k183 : KFun := ⟨[rTmp (nat_lit 4) g4], (kSeq (oSet (xMove q111) p4 
oEnd) (kSeq (kBlock (nat_lit 0) (kLoop (kSeq (kSeq (oSet (xMove g0) p5 
(oSet (xLook (lkLen .str g5)) p6 
(oSet (xLook (lkBin .gtr g6 q6)) p7 
oEnd))) (kCond g7 kSkip (kExit (nat_lit 0)))) (kBlock (nat_lit 1) (kSeq (kSeq (oSet (xMove g1) p8 
(oSet (xMove g0) p9 
(oSet (xMove g0) p10 
(oSet (xLook (lkLen .str g10)) p11 
(oSet (xLook (lkBin .sub g11 q16)) p12 
(oSet (xLook (lkIxStr g9 g12)) p13 
(oSet (xCall q347 [g8, g13]) p14 
(oSet (xLook (lkUn .not g14)) p15 
oEnd)))))))) (kCond g15 (kExit (nat_lit 0)) kSkip)) (oSet (xMove g0) p16 
(oSet (xMove g0) p17 
(oSet (xLook (lkLen .str g17)) p18 
(oSet (xLook (lkBin .sub g18 q16)) p19 
(oSet (xLook (lkSliceStr g16 none (some g19))) p20 
(oSet (xMove g20) p0 
oEnd))))))))))) (kSeq (oSet (xMove g0) p21 
(oSet (xMove g21) p4 
oEnd)) kRet)))⟩
noncomputable def k186 : KFun := ⟨[rTmp (nat_lit 4) g4], (kSeq (oSet (xTurn (tnBox g0)) p2 
(oSet (xTurn (tnBox g1)) p3 
(oSet (xMove q225) p4 
oEnd))) (kSeq (oSet (xLook (lkMkFunc (.func (nat_lit 284)) [] [g3, g2])) p5 
(oSet (xMove g5) p4 
oEnd)) kRet))⟩
noncomputable def k187 : KFun := ⟨[rTmp (nat_lit 2) g2], (kSeq (oSet (xMove q0) p2 
oEnd) (kSeq (oSet (xMove g0) p3 
(oSet (xLook (lkEq false .ptr g3 q5)) p4 
(oSet (xMove g4) p5 
(oSetIf (wantF g5) (xMove g0) p6 
(oSetIf (wantF g5) (xNil g6) p7 
(oSetIf (wantF g5) (xLook (lkFieldAddr (nat_lit 0) g7)) p8 
(oSetIf (wantF g5) (xCall q279 [g8]) p9 
(oSet (xLook (lkPick g5 q2 g9)) p10 
(oSet (xMove g10) p2 
oEnd))))))))) kRet))⟩
noncomputable def k188 : KFun := ⟨[rTmp (nat_lit 2) g2], (kSeq (oSet (xMove q0) p2 
oEnd) (kSeq (oSet (xMove g0) p3 
(oSet (xLook (lkEq false .ptr g3 q5)) p4 
(oSet (xMove g4) p5 
(oSetIf (wantF g5) (xMove g0) p6 
(oSetIf (wantF g5) (xNil g6) p7 
(oSetIf (wantF g5) (xLook (lkFieldAddr (nat_lit 2) g7)) p8 
(oSetIf (wantF g5) (xLook (lkLoad1 g8)) p9 
(oSetIf (wantF g5) (xLook (lkEq false .ptr g9 q5)) p10 
(oSet (xLook (lkPick g5 q2 g10)) p11 
(oSet (xMove g11) p2 
oEnd)))))))))) kRet))⟩
def q352 : OpdF := kC (.func (.func (nat_lit 285)) ⟨[]⟩ ⟨[]⟩)
def q353 : List Value := [(.bool false), (.int .u32 (.ofNat (nat_lit 0))), (.int .u32 (.ofNat (nat_lit 0))), (.int .u32 (.ofNat (nat_lit 0))), (.int .u32 (.ofNat (nat_lit 0))), (.int .u32 (.ofNat (nat_lit 0))), (.int .u32 (.ofNat (nat_lit 0))), (.int .u32 (.ofNat (nat_lit 0))), (.int .u32 (.ofNat (nat_lit 0))), (.int .u8 (.ofNat (nat_lit 0))), (.int .u8 (.ofNat (nat_lit 0))), (.int .u8 (.ofNat (nat_lit 0))), (.int .u8 (.ofNat (nat_lit 0))), (.int .u8 (.ofNat (nat_lit 0))), (.int .u8 (.ofNat (nat_lit 0))), (.int .u8 (.ofNat (nat_lit 0))), (.int .u8 (.ofNat (nat_lit 0))), (.int .u8 (.ofNat (nat_lit 0))), (.int .u8 (.ofNat (nat_lit 0))), (.int .u8 (.ofNat (nat_lit 0))), (.int .u8 (.ofNat (nat_lit 0))), (.int .u8 (.ofNat (nat_lit 0))), (.int .u8 (.ofNat (nat_lit 0))), (.int .u8 (.ofNat (nat_lit 0))), (.int .u8 (.ofNat (nat_lit 0))), (.int .u8 (.ofNat (nat_lit 0))), (.int .u8 (.ofNat (nat_lit 0))), (.int .u8 (.ofNat (nat_lit 0))), (.int .u8 (.ofNat (nat_lit 0))), (.int .u8 (.ofNat (nat_lit 0))), (.int .u8 (.ofNat (nat_lit 0))), (.int .u8 (.ofNat (nat_lit 0))), (.int .u8 (.ofNat (nat_lit 0))), (.int .u8 (.ofNat (nat_lit 0))), (.int .u8 (.ofNat (nat_lit 0))), (.int .u8 (.ofNat (nat_lit 0))), (.int .u8 (.ofNat (nat_lit 0))), (.int .u8 (.ofNat (nat_lit 0))), (.int .u8 (.ofNat (nat_lit 0))), (.int .u8 (.ofNat (nat_lit 0))), (.int .u8 (.ofNat (nat_lit 0))), (.int .u8 (.ofNat (nat_lit 0))), (.int .u8 (.ofNat (nat_lit 0))), (.int .u8 (.ofNat (nat_lit 0))), (.int .u8 (.ofNat (nat_lit 0))), (.int .u8 (.ofNat (nat_lit 0))), (.int .u8 (.ofNat (nat_lit 0))), (.int .u8 (.ofNat (nat_lit 0))), (.int .u8 (.ofNat (nat_lit 0))), (.int .u8 (.ofNat (nat_lit 0))), (.int .u8 (.ofNat (nat_lit 0))), (.int .u8 (.ofNat (nat_lit 0))), (.int .u8 (.ofNat (nat_lit 0))), (.int .u8 (.ofNat (nat_lit 0))), (.int .u8 (.ofNat (nat_lit 0))), (.int .u8 (.ofNat (nat_lit 0))), (.int .u8 (.ofNat (nat_lit 0))), (.int .u8 (.ofNat (nat_lit 0))), (.int .u8 (.ofNat (nat_lit 0))), (.int .u8 (.ofNat (nat_lit 0))), (.int .u8 (.ofNat (nat_lit 0))), (.int .u8 (.ofNat (nat_lit 0))), (.int .u8 (.ofNat (nat_lit 0))), (.int .u8 (.ofNat (nat_lit 0))), (.int .u8 (.ofNat (nat_lit 0))), (.int .u8 (.ofNat (nat_lit 0))), (.int .u8 (.ofNat (nat_lit 0))), (.int .u8 (.ofNat (nat_lit 0))), (.int .u8 (.ofNat (nat_lit 0))), (.int .u8 (.ofNat (nat_lit 0))), (.int .u8 (.ofNat (nat_lit 0))), (.int .u8 (.ofNat (nat_lit 0))), (.int .u8 (.ofNat (nat_lit 0))), (.int .i64 (.ofNat (nat_lit 0)))]
noncomputable def k189 : KFun := ⟨[rTmp (nat_lit 0) g0], (kSeq (oSet (xMove q5) p0 
oEnd) (kSeq (oSet (xCall q352 []) p1 
(oSet (xLook (lkBuild q353 [((nat_lit 0), (nat_lit 1), q2), ((nat_lit 1), (nat_lit 8), g1)])) p2 
(oSet (xTurn (tnBox g2)) p3 
(oSet (xMove g3) p0 
oEnd)))) kRet))⟩
def q354 : OpdF := kC (.func (.func (nat_lit 286)) ⟨[]⟩ ⟨[]⟩)
def q355 : OpdF := kC (.func (.func (nat_lit 287)) ⟨[]⟩ ⟨[]⟩)
noncomputable def k190 : KFun := ⟨[], (kSeq (kSeq (oSet (xMove g0) p5 
(oSet (xCall q354 [g5]) p6 
oEnd)) (kCond g6 kRet kSkip)) (kBlock (nat_lit 0) (kLoop (kSeq (kSeq (oSet (xMove g1) p7 
(oSet (xLook (lkLen .sl g7)) p8 
(oSet (xLook (lkBin .gtr g8 q6)) p9 
oEnd))) (kCond g9 kSkip (kExit (nat_lit 0)))) (kBlock (nat_lit 1) (kSeq (kDraw 
(dLook (nat_lit 0) [] [] (lkMove g0) p10 
(dTurn (nat_lit 1) [] [] false (xNil g10) p11 
(dLook (nat_lit 2) [] [] (lkFieldAddr (nat_lit 9) g11) p12 
(dLook (nat_lit 3) [] [] (lkMove g0) p13 
(dTurn (nat_lit 4) [] [] false (xNil g13) p14 
(dLook (nat_lit 5) [] [] (lkFieldAddr (nat_lit 73) g14) p15 
(dLook (nat_lit 6) [] [] (lkLoad1 g15) p16 
(dLook (nat_lit 7) [] [] (lkBin .rem g16 q254) p17 
(dLook (nat_lit 8) [] [] (lkSliceArr (nat_lit 64) (nat_lit 1) g12 (some g17) none none) p18 
(dLook (nat_lit 9) [] [] (lkMove g1) p19 
(dTurn (nat_lit 10) [] [] true (xTurn (tnCopy (nat_lit 1) g18 g19)) p20 
(dLook (nat_lit 11) [] [(nat_lit 10)] (lkMove g20) p4 (dEnd [(nat_lit 10), (nat_lit 11), (nat_lit 12), (nat_lit 13), (nat_lit 14), (nat_lit 15), (nat_lit 16), (nat_lit 17), (nat_lit 18), (nat_lit 19), (nat_lit 20), (nat_lit 4)])))))))))))))) (kSeq (oSet (xMove g0) p21 
(oSet (xNil g21) p22 
(oSet (xLook (lkFieldAddr (nat_lit 73) g22)) p23 
(oSet (xLook (lkLoad1 g23)) p24 
(oSet (xMove g4) p25 
(oSet (xLook (lkBin .add g24 g25)) p26 
(oSet (xNil g21) p27 
(oSet (xLook (lkFieldAddr (nat_lit 73) g27)) p28 
(oDo (xTurn (tnStore (nat_lit 1) g28 g26)) 
oEnd))))))))) (kSeq (oSet (xMove g1) p29 
(oSet (xMove g4) p30 
(oSet (xLook (lkSliceSl (nat_lit 1) g29 (some g30) none none)) p31 
(oSet (xMove g31) p1 
oEnd)))) (kSeq (oSet (xMove g0) p32 
(oSet (xNil g32) p33 
(oSet (xLook (lkFieldAddr (nat_lit 73) g33)) p34 
(oSet (xLook (lkLoad1 g34)) p35 
(oSet (xLook (lkBin .rem g35 q254)) p36 
(oSet (xLook (lkEq false .int g36 q6)) p37 
oEnd)))))) (kCond g37 (kDraw 
(dLook (nat_lit 0) [] [] (lkMove g0) p38 
(dLook (nat_lit 1) [] [] (lkMove g0) p39 
(dTurn (nat_lit 2) [] [] false (xNil g39) p40 
(dLook (nat_lit 3) [] [] (lkFieldAddr (nat_lit 1) g40) p41 
(dLook (nat_lit 4) [] [] (lkLoadN (nat_lit 8) g41) p42 
(dLook (nat_lit 5) [] [] (lkMove g0) p43 
(dTurn (nat_lit 6) [] [] false (xNil g43) p44 
(dLook (nat_lit 7) [] [] (lkFieldAddr (nat_lit 9) g44) p45 
(dLook (nat_lit 8) [] [] (lkSliceArr (nat_lit 64) (nat_lit 1) g45 none none none) p46 
(dTurn (nat_lit 9) [] [] true (xCall q355 [g42, g46]) p47 
(dTurn (nat_lit 10) [] [(nat_lit 9)] false (xNil g38) p48 
(dLook (nat_lit 11) [] [(nat_lit 9)] (lkFieldAddr (nat_lit 1) g48) p49 
(dTurn (nat_lit 12) [] [(nat_lit 9)] true (xTurn (tnStore (nat_lit 8) g49 g47)) noDst (dEnd [(nat_lit 38), (nat_lit 39), (nat_lit 40), (nat_lit 41), (nat_lit 42), (nat_lit 43), (nat_lit 44), (nat_lit 45), (nat_lit 46), (nat_lit 47), (nat_lit 48), (nat_lit 49)]))))))))))))))) kSkip))))))))))⟩
def q356 : List Value := [(.int .u8 (.ofNat (nat_lit 0))), (.int .u8 (.ofNat (nat_lit 0))), (.int .u8 (.ofNat (nat_lit 0))), (.int .u8 (.ofNat (nat_lit 0))), (.int .u8 (.ofNat (nat_lit 0))), (.int .u8 (.ofNat (nat_lit 0))), (.int .u8 (.ofNat (nat_lit 0))), (.int .u8 (.ofNat (nat_lit 0))), (.int .u8 (.ofNat (nat_lit 0))), (.int .u8 (.ofNat (nat_lit 0))), (.int .u8 (.ofNat (nat_lit 0))), (.int .u8 (.ofNat (nat_lit 0))), (.int .u8 (.ofNat (nat_lit 0))), (.int .u8 (.ofNat (nat_lit 0))), (.int .u8 (.ofNat (nat_lit 0))), (.int .u8 (.ofNat (nat_lit 0))), (.int .u8 (.ofNat (nat_lit 0))), (.int .u8 (.ofNat (nat_lit 0))), (.int .u8 (.ofNat (nat_lit 0))), (.int .u8 (.ofNat (nat_lit 0))), (.int .u8 (.ofNat (nat_lit 0))), (.int .u8 (.ofNat (nat_lit 0))), (.int .u8 (.ofNat (nat_lit 0))), (.int .u8 (.ofNat (nat_lit 0))), (.int .u8 (.ofNat (nat_lit 0))), (.int .u8 (.ofNat (nat_lit 0))), (.int .u8 (.ofNat (nat_lit 0))), (.int .u8 (.ofNat (nat_lit 0))), (.int .u8 (.ofNat (nat_lit 0))), (.int .u8 (.ofNat (nat_lit 0))), (.int .u8 (.ofNat (nat_lit 0))), (.int .u8 (.ofNat (nat_lit 0))), (.int .u8 (.ofNat (nat_lit 0))), (.int .u8 (.ofNat (nat_lit 0))), (.int .u8 (.ofNat (nat_lit 0))), (.int .u8 (.ofNat (nat_lit 0))), (.int .u8 (.ofNat (nat_lit 0))), (.int .u8 (.ofNat (nat_lit 0))), (.int .u8 (.ofNat (nat_lit 0))), (.int .u8 (.ofNat (nat_lit 0))), (.int .u8 (.ofNat (nat_lit 0))), (.int .u8 (.ofNat (nat_lit 0))), (.int .u8 (.ofNat (nat_lit 0))), (.int .u8 (.ofNat (nat_lit 0))), (.int .u8 (.ofNat (nat_lit 0))), (.int .u8 (.ofNat (nat_lit 0))), (.int .u8 (.ofNat (nat_lit 0))), (.int .u8 (.ofNat (nat_lit 0))), (.int .u8 (.ofNat (nat_lit 0))), (.int .u8 (.ofNat (nat_lit 0))), (.int .u8 (.ofNat (nat_lit 0))), (.int .u8 (.ofNat (nat_lit 0))), (.int .u8 (.ofNat (nat_lit 0))), (.int .u8 (.ofNat (nat_lit 0))), (.int .u8 (.ofNat (nat_lit 0))), (.int .u8 (.ofNat (nat_lit 0))), (.int .u8 (.ofNat (nat_lit 0))), (.int .u8 (.ofNat (nat_lit 0))), (.int .u8 (.ofNat (nat_lit 0))), (.int .u8 (.ofNat (nat_lit 0))), (.int .u8 (.ofNat (nat_lit 0))), (.int .u8 (.ofNat (nat_lit 0))), (.int .u8 (.ofNat (nat_lit 0))), (.int .u8 (.ofNat (nat_lit 0))), (.int .u8 (.ofNat (nat_lit 0))), (.int .u8 (.ofNat (nat_lit 0))), (.int .u8 (.ofNat (nat_lit 0))), (.int .u8 (.ofNat (nat_lit 0))), (.int .u8 (.ofNat (nat_lit 0))), (.int .u8 (.ofNat (nat_lit 0))), (.int .u8 (.ofNat (nat_lit 0))), (.int .u8 (.ofNat (nat_lit 0)))]
def q357 : OpdF := kC (.int .i64 (.ofNat (nat_lit 119)))
def q358 : OpdF := kC (.int .u64 (.ofNat (nat_lit 8)))
def q359 : OpdF := kC (.int .i64 (.ofNat (nat_lit 56)))
def q360 : OpdF := kC (.int .i64 (.ofNat (nat_lit 24)))
noncomputable def k191 : KFun := ⟨[rCellN (nat_lit 2) g2 (nat_lit 32)], (kSeq (oSet (xTurn (tnAlloc q91)) p2 
oEnd) (kSeq (kSeq (oSet (xMove g0) p12 
(oSet (xCall q354 [g12]) p13 
oEnd)) (kCond g13 (kSeq (oSet (xLook (lkBuild q91 [])) p14 
(oDo (xTurn (tnStore (nat_lit 32) g2 g14)) 
oEnd)) kRet) kSkip)) (kSeq (oSet (xMove g0) p15 
(oSet (xNil g15) p16 
(oSet (xLook (lkLoadN (nat_lit 74) g16)) p17 
(oSet (xTurn (tnAlloc q353)) p3 
(oDo (xTurn (tnStore (nat_lit 74) g3 g17)) 
oEnd))))) (kSeq (oSet (xLook (lkBuild q356 [((nat_lit 0), (nat_lit 1), q228)])) p18 
(oSet (xTurn (tnAlloc q356)) p4 
(oDo (xTurn (tnStore (nat_lit 72) g4 g18)) 
oEnd))) (kSeq (oSet (xMove g0) p19 
(oSet (xNil g19) p20 
(oSet (xLook (lkFieldAddr (nat_lit 73) g20)) p21 
(oSet (xLook (lkLoad1 g21)) p22 
(oSet (xLook (lkBin .rem g22 q254)) p23 
(oSet (xLook (lkBin .sub q357 g23)) p24 
(oSet (xLook (lkBin .rem g24 q254)) p25 
(oSet (xLook (lkBin .add q16 g25)) p26 
(oSet (xMove g26) p5 
oEnd))))))))) (kSeq (oSet (xMove g0) p27 
(oSet (xNil g27) p28 
(oSet (xLook (lkFieldAddr (nat_lit 73) g28)) p29 
(oSet (xLook (lkLoad1 g29)) p30 
(oSet (xLook (lkIntTo .u64 g30)) p31 
(oSet (xLook (lkBin .mul g31 q358)) p32 
(oSet (xMove g32) p6 
oEnd))))))) (kSeq (kSeq (oSet (xMove q6) p33 
oEnd) (kBlock (nat_lit 0) (kLoop (kSeq (oSet (xLook (lkBin .lss g33 q38)) p34 
oEnd) (kSeq (kCond g34 kSkip (kExit (nat_lit 0))) (kSeq (kBlock (nat_lit 1) (kSeq (oSet (xMove g33) p35 
(oSet (xMove g35) p7 
oEnd)) (oSet (xMove g5) p36 
(oSet (xMove g7) p37 
(oSet (xLook (lkBin .add g36 g37)) p38 
(oSet (xMove g6) p39 
(oSet (xMove g7) p40 
(oSet (xLook (lkBin .mul q38 g40)) p41 
(oSet (xLook (lkBin .sub q359 g41)) p42 
(oSet (xLook (lkBin .shr g39 g42)) p43 
(oSet (xLook (lkIntTo .u8 g43)) p44 
(oSet (xLook (lkIxArr (nat_lit 72) (nat_lit 1) g4 g38)) p45 
(oDo (xTurn (tnStore (nat_lit 1) g45 g44)) 
oEnd))))))))))))) (oSet (xLook (lkBin .add g33 q16)) p46 
(oSet (xMove g46) p33 
oEnd)))))))) (kSeq (oSet (xMove g5) p47 
(oSet (xLook (lkBin .add g47 q38)) p48 
(oSet (xLook (lkSliceArr (nat_lit 72) (nat_lit 1) g4 none (some g48) none)) p49 
(oSet (xCall q248 [g3, g49]) p50 
oEnd)))) (kSeq (oSet (xTurn (tnAlloc q91)) p8 
oEnd) (kSeq (kSeq (oSet (xLook (lkFieldAddr (nat_lit 1) g3)) p51 
(oSet (xLook (lkLoadN (nat_lit 8) g51)) p52 
(oSet (xMove q6) p53 
oEnd))) (kBlock (nat_lit 2) (kLoop (kSeq (oSet (xLook (lkBin .lss g53 q38)) p54 
oEnd) (kSeq (kCond g54 kSkip (kExit (nat_lit 2))) (kSeq (kBlock (nat_lit 3) (kSeq (oSet (xMove g53) p55 
(oSet (xLook (lkIxVal1 (nat_lit 8) g52 g53)) p56 
(oSet (xMove g55) p9 
(oSet (xMove g56) p10 
oEnd)))) (kSeq (oSet (xMove q6) p57 
oEnd) (kBlock (nat_lit 4) (kLoop (kSeq (oSet (xLook (lkBin .lss g57 q149)) p58 
oEnd) (kSeq (kCond g58 kSkip (kExit (nat_lit 4))) (kSeq (kBlock (nat_lit 5) (kSeq (oSet (xMove g57) p59 
(oSet (xMove g59) p11 
oEnd)) (oSet (xMove g9) p60 
(oSet (xLook (lkBin .mul q149 g60)) p61 
(oSet (xMove g11) p62 
(oSet (xLook (lkBin .add g61 g62)) p63 
(oSet (xMove g10) p64 
(oSet (xMove g11) p65 
(oSet (xLook (lkBin .mul q38 g65)) p66 
(oSet (xLook (lkBin .sub q360 g66)) p67 
(oSet (xLook (lkBin .shr g64 g67)) p68 
(oSet (xLook (lkIntTo .u8 g68)) p69 
(oSet (xLook (lkIxArr (nat_lit 32) (nat_lit 1) g8 g63)) p70 
(oDo (xTurn (tnStore (nat_lit 1) g70 g69)) 
oEnd)))))))))))))) (oSet (xLook (lkBin .add g57 q16)) p71 
(oSet (xMove g71) p57 
oEnd)))))))))) (oSet (xLook (lkBin .add g53 q16)) p72 
(oSet (xMove g72) p53 
oEnd)))))))) (kSeq (oSet (xLook (lkLoadN (nat_lit 32) g8)) p73 
(oDo (xTurn (tnStore (nat_lit 32) g2 g73)) 
oEnd)) kRet)))))))))))⟩
noncomputable def k192 : KFun := ⟨[rTmp (nat_lit 4) g4], (kSeq (oSet (xMove q6) p4 
oEnd) (kSeq (kSeq (oSet (xMove g0) p6 
(oSet (xLook (lkLen .sl g6)) p7 
(oSet (xMove q6) p8 
oEnd))) (kBlock (nat_lit 0) (kLoop (kSeq (oSet (xLook (lkBin .lss g8 g7)) p9 
oEnd) (kSeq (kCond g9 kSkip (kExit (nat_lit 0))) (kSeq (kBlock (nat_lit 1) (kSeq (oSet (xMove g8) p10 
(oSet (xMove g10) p5 
oEnd)) (kSeq (oSet (xMove g1) p11 
(oSet (xMove g0) p12 
(oSet (xMove g5) p13 
(oSet (xLook (lkIxSl (nat_lit 35) g12 g13)) p14 
(oSet (xLook (lkLoadN (nat_lit 35) g14)) p15 
(oSet (xCall g11 [g15]) p16 
oEnd)))))) (kCond g16 (kSeq (oSet (xMove g5) p17 
(oSet (xMove g17) p4 
oEnd)) kRet) kSkip)))) (oSet (xLook (lkBin .add g8 q16)) p18 
(oSet (xMove g18) p8 
oEnd)))))))) (kSeq (oSet (xMove q269) p4 
oEnd) kRet)))⟩
noncomputable def k193 : KFun := ⟨[rTmp (nat_lit 3) g3], (kSeq (oSet (xTurn (tnBox g0)) p2 
(oSet (xMove q0) p3 
oEnd)) (kSeq (oSet (xLook (lkFieldAddr (nat_lit 2) g2)) p4 
(oSet (xLook (lkLoadN (nat_lit 32) g4)) p5 
(oSet (xLook (lkLoadN (nat_lit 32) g1)) p6 
(oSet (xLook (lkEq false (.flat [(.int .u8), (.int .u8), (.int .u8), (.int .u8), (.int .u8), (.int .u8), (.int .u8), (.int .u8), (.int .u8), (.int .u8), (.int .u8), (.int .u8), (.int .u8), (.int .u8), (.int .u8), (.int .u8), (.int .u8), (.int .u8), (.int .u8), (.int .u8), (.int .u8), (.int .u8), (.int .u8), (.int .u8), (.int .u8), (.int .u8), (.int .u8), (.int .u8), (.int .u8), (.int .u8), (.int .u8), (.int .u8)]) g5 g6)) p7 
(oSet (xMove g7) p3 
oEnd))))) kRet))⟩
def q361 : OpdF := kC (.func (.func (nat_lit 288)) ⟨[]⟩ ⟨[]⟩)
def q362 : OpdF := kC (.func (.func (nat_lit 289)) ⟨[]⟩ ⟨[]⟩)
def q363 : OpdF := kC (.func (.func (nat_lit 291)) ⟨[]⟩ ⟨[]⟩)
noncomputable def k194 : KFun := ⟨[rTmp (nat_lit 4) g4, rTmp (nat_lit 5) g5, rTmp (nat_lit 6) g6], (kSeq (oSet (xTurn (tnBox g1)) p3 
(oSet (xMove q6) p4 
(oSet (xMove q18) p5 
(oSet (xMove q6) p6 
oEnd)))) (kSeq (kSeq (oSet (xMove g0) p9 
(oSet (xCall q361 [g9]) p10 
(oSet (xLook (lkEq true .int g10 q6)) p11 
(oSet (xMove g11) p12 
(oSetIf (wantF g12) (xLook (lkLoad1 g3)) p13 
(oSetIf (wantF g12) (xLook (lkBin .lss g13 q16)) p14 
(oSet (xLook (lkPick g12 q2 g14)) p15 
oEnd))))))) (kCond g15 (kSeq (oSet (xMove q6) p4 
(oSet (xMove q18) p5 
(oSet (xMove q35) p6 
oEnd))) kRet) kSkip)) (kSeq (oSet (xMove g0) p16 
(oSet (xLook (lkMkFunc (.func (nat_lit 290)) [] [g3])) p17 
(oSet (xCall q362 [g16, g17]) p18 
(oSet (xMove g18) p7 
oEnd)))) (kSeq (kSeq (oSet (xMove g7) p19 
(oSet (xLook (lkBin .lss g19 q6)) p20 
oEnd)) (kCond g20 (kSeq (oSet (xMove q6) p4 
(oSet (xMove q18) p5 
(oSet (xMove q38) p6 
oEnd))) kRet) kSkip)) (kSeq (oSet (xMove g0) p21 
(oSet (xMove g7) p22 
(oSet (xLook (lkIxSl (nat_lit 2) g21 g22)) p23 
(oSet (xLook (lkFieldAddr (nat_lit 0) g23)) p24 
(oSet (xLook (lkLoad1 g24)) p25 
(oSet (xMove g25) p8 
oEnd)))))) (kSeq (oSet (xMove g8) p26 
(oSet (xMove g0) p27 
(oSet (xMove g7) p28 
(oSet (xMove g8) p29 
(oSet (xLook (lkLoad1 g3)) p30 
(oSet (xCall q363 [g27, g28, g29, g30]) p31 
(oSet (xMove g26) p4 
(oSet (xMove g31) p5 
(oSet (xMove q6) p6 
oEnd))))))))) kRet))))))⟩
noncomputable def k195 : KFun := ⟨[rTmp (nat_lit 2) g2], (kSeq (oSet (xMove q18) p2 
oEnd) (kSeq (oSet (xMove g0) p9 
(oSet (xNil g9) p10 
(oSet (xLook (lkFieldAddr (nat_lit 2) g10)) p11 
(oSet (xLook (lkLoad1 g11)) p12 
(oSet (xCall q272 [g12]) p13 
(oSet (xLook (lkBin .sub g13 q35)) p14 
(oSet (xLook (lkBuild q66 [((nat_lit 0), (nat_lit 1), q35), ((nat_lit 1), (nat_lit 1), g14)])) p15 
(oSet (xTurn (tnBuildSlice q66 [((nat_lit 0), (nat_lit 2), g15)] (nat_lit 1))) p16 
(oSet (xTurn (tnAlloc q28)) p3 
(oDo (xTurn (tnStore (nat_lit 1) g3 g16)) 
oEnd)))))))))) (kSeq (oSet (xLook (lkMkFunc (.func (nat_lit 292)) [] [g3])) p17 
(oSet (xMove g17) p4 
oEnd)) (kSeq (kSeq (oSet (xMove g0) p18 
(oSet (xNil g18) p19 
(oSet (xLook (lkFieldAddr (nat_lit 38) g19)) p20 
(oSet (xLook (lkLoad1 g20)) p21 
(oSet (xTurn (tnRangeMap g21)) p22 
oEnd))))) (kBlock (nat_lit 0) (kLoop (kSeq (oSet (xNextMap g22) p23 
(oSet (xLook (lkExtract (nat_lit 0) g23)) p24 
oEnd)) (kSeq (kCond g24 kSkip (kExit (nat_lit 0))) (kBlock (nat_lit 1) (kSeq (oSet (xLook (lkEntry g22)) p25 
(oSet (xLook (lkExtract (nat_lit 1) g25)) p26 
(oSet (xTurn (tnAlloc q66)) p6 
(oDo (xTurn (tnStore (nat_lit 2) g6 g26)) 
oEnd)))) (oSet (xMove g4) p27 
(oSet (xLook (lkLoadN (nat_lit 2) g6)) p28 
(oSet (xCall g27 [g28]) p29 
oEnd)))))))))) (kSeq (kSeq (oSet (xMove g0) p30 
(oSet (xNil g30) p31 
(oSet (xLook (lkFieldAddr (nat_lit 0) g31)) p32 
(oSet (xLook (lkFieldAddr (nat_lit 0) g32)) p33 
(oSet (xLook (lkLoad1 g33)) p34 
(oSet (xLook (lkLen .sl g34)) p35 
(oSet (xMove q6) p36 
oEnd))))))) (kBlock (nat_lit 2) (kLoop (kSeq (oSet (xLook (lkBin .lss g36 g35)) p37 
oEnd) (kSeq (kCond g37 kSkip (kExit (nat_lit 2))) (kSeq (kBlock (nat_lit 3) (kSeq (oSet (xLook (lkIxSl (nat_lit 35) g34 g36)) p38 
(oSet (xLook (lkLoadN (nat_lit 35) g38)) p39 
(oSet (xTurn (tnAlloc q134)) p8 
(oDo (xTurn (tnStore (nat_lit 35) g8 g39)) 
oEnd)))) (oSet (xMove g4) p40 
(oSet (xLook (lkFieldAddr (nat_lit 0) g8)) p41 
(oSet (xLook (lkLoadN (nat_lit 2) g41)) p42 
(oSet (xCall g40 [g42]) p43 
oEnd)))))) (oSet (xLook (lkBin .add g36 q16)) p44 
(oSet (xMove g44) p36 
oEnd)))))))) (kSeq (oSet (xMove g4) p45 
(oSet (xMove g0) p46 
(oSet (xNil g46) p47 
(oSet (xLook (lkFieldAddr (nat_lit 36) g47)) p48 
(oSet (xLook (lkLoadN (nat_lit 2) g48)) p49 
(oSet (xCall g45 [g49]) p50 
oEnd)))))) (kSeq (oSet (xLook (lkLoad1 g3)) p51 
(oSet (xMove g51) p2 
oEnd)) kRet)))))))⟩
def q373 : OpdF := kC (.func (.func (nat_lit 301)) ⟨[]⟩ ⟨[]⟩)
def q376 : OpdF := kC (.func (.func (nat_lit 305)) ⟨[]⟩ ⟨[]⟩)
def q377 : OpdF := kC (.func (.func (nat_lit 306)) ⟨[]⟩ ⟨[]⟩)
noncomputable def k203 : KFun := ⟨[rTmp (nat_lit 2) g2], (kSeq (oSet (xTurn (tnBox g0)) p1 
(oSet (xMove q6) p2 
oEnd)) (kSeq (oSet (xLook (lkFieldAddr (nat_lit 1) g1)) p3 
(oSet (xLook (lkLoad1 g3)) p4 
(oSet (xCall q131 [g4]) p5 
(oSet (xMove g5) p2 
oEnd)))) kRet))⟩
def q379 : OpdF := kC (.int .i64 (.ofNat (nat_lit 9)))
def q381 : OpdF := kC (.func (.func (nat_lit 307)) ⟨[]⟩ ⟨[]⟩)
def q383 : OpdF := kC (.func (.func (nat_lit 308)) ⟨[]⟩ ⟨[]⟩)
def q384 : OpdF := kC (.func (.func (nat_lit 309)) ⟨[]⟩ ⟨[]⟩)
noncomputable def k206 : KFun := ⟨[rCellN (nat_lit 2) g2 (nat_lit 2)], (kSeq (oSet (xTurn (tnAlloc q66)) p2 
oEnd) (kSeq (oSet (xMove g0) p4 
(oSet (xCall q157 [g4]) p5 
(oSet (xTurn (tnAlloc q66)) p3 
(oDo (xTurn (tnStore (nat_lit 2) g3 g5)) 
oEnd)))) (kSeq (kSeq (oSet (xLook (lkFieldAddr (nat_lit 0) g3)) p6 
(oSet (xLook (lkLoad1 g6)) p7 
(oSet (xLook (lkEq false .int g7 q6)) p8 
(oSet (xMove g8) p9 
(oSetIf (wantT g9) (xMove g0) p10 
(oSetIf (wantT g9) (xCall q384 [g10]) p11 
(oSetIf (wantT g9) (xLook (lkBin .gtr g11 q6)) p12 
(oSet (xLook (lkPick g9 g12 q0)) p13 
oEnd)))))))) (kCond g13 (oSet (xMove g0) p14 
(oSet (xNil g14) p15 
(oSet (xLook (lkFieldAddr (nat_lit 4) g15)) p16 
(oSet (xLook (lkLoad1 g16)) p17 
(oSet (xLook (lkBuild q66 [((nat_lit 0), (nat_lit 1), q149), ((nat_lit 1), (nat_lit 1), g17)])) p18 
(oDo (xTurn (tnStore (nat_lit 2) g3 g18)) 
oEnd)))))) kSkip)) (kSeq (oSet (xLook (lkLoadN (nat_lit 2) g3)) p19 
(oDo (xTurn (tnStore (nat_lit 2) g2 g19)) 
oEnd)) kRet))))⟩
def q385 : OpdF := kC (.func (.func (nat_lit 310)) ⟨[]⟩ ⟨[]⟩)
def q386 : List Value := [(.int .u8 (.ofNat (nat_lit 0))), (.int .u8 (.ofNat (nat_lit 0))), (.int .u8 (.ofNat (nat_lit 0))), (.int .u8 (.ofNat (nat_lit 0))), (.int .u8 (.ofNat (nat_lit 0))), (.int .u8 (.ofNat (nat_lit 0))), (.int .u8 (.ofNat (nat_lit 0))), (.int .u8 (.ofNat (nat_lit 0))), (.int .u8 (.ofNat (nat_lit 0))), (.int .u8 (.ofNat (nat_lit 0))), (.int .u8 (.ofNat (nat_lit 0))), (.int .u8 (.ofNat (nat_lit 0))), (.int .u8 (.ofNat (nat_lit 0))), (.int .u8 (.ofNat (nat_lit 0))), (.int .u8 (.ofNat (nat_lit 0))), (.int .u8 (.ofNat (nat_lit 0))), (.int .u8 (.ofNat (nat_lit 0))), (.int .u8 (.ofNat (nat_lit 0))), (.int .u8 (.ofNat (nat_lit 0))), (.int .u8 (.ofNat (nat_lit 0))), (.int .u8 (.ofNat (nat_lit 0))), (.int .u8 (.ofNat (nat_lit 0))), (.int .u8 (.ofNat (nat_lit 0))), (.int .u8 (.ofNat (nat_lit 0))), (.int .u8 (.ofNat (nat_lit 0))), (.int .u8 (.ofNat (nat_lit 0))), (.int .u8 (.ofNat (nat_lit 0))), (.int .u8 (.ofNat (nat_lit 0))), (.int .u8 (.ofNat (nat_lit 0))), (.int .u8 (.ofNat (nat_lit 0))), (.int .u8 (.ofNat (nat_lit 0))), (.int .u8 (.ofNat (nat_lit 0))), (.int .u8 (.ofNat (nat_lit 0))), (.int .u8 (.ofNat (nat_lit 0))), (.int .u8 (.ofNat (nat_lit 0))), (.int .u8 (.ofNat (nat_lit 0))), (.int .u8 (.ofNat (nat_lit 0))), (.int .u8 (.ofNat (nat_lit 0))), (.int .u8 (.ofNat (nat_lit 0))), (.int .u8 (.ofNat (nat_lit 0))), (.int .u8 (.ofNat (nat_lit 0))), (.int .u8 (.ofNat (nat_lit 0))), (.int .u8 (.ofNat (nat_lit 0))), (.int .u8 (.ofNat (nat_lit 0))), (.int .u8 (.ofNat (nat_lit 0))), (.int .u8 (.ofNat (nat_lit 0))), (.int .u8 (.ofNat (nat_lit 0))), (.int .u8 (.ofNat (nat_lit 0))), (.int .u8 (.ofNat (nat_lit 0))), (.int .u8 (.ofNat (nat_lit 0))), (.int .u8 (.ofNat (nat_lit 0))), (.int .u8 (.ofNat (nat_lit 0))), (.int .u8 (.ofNat (nat_lit 0))), (.int .u8 (.ofNat (nat_lit 0))), (.int .u8 (.ofNat (nat_lit 0))), (.int .u8 (.ofNat (nat_lit 0))), (.int .u8 (.ofNat (nat_lit 0))), (.int .u8 (.ofNat (nat_lit 0))), (.int .u8 (.ofNat (nat_lit 0))), (.int .u8 (.ofNat (nat_lit 0))), (.int .u8 (.ofNat (nat_lit 0))), (.int .u8 (.ofNat (nat_lit 0))), (.int .u8 (.ofNat (nat_lit 0))), (.int .u8 (.ofNat (nat_lit 0)))]
def q387 : List Value := [(.int .i64 (.ofNat (nat_lit 0))), (.int .u8 (.ofNat (nat_lit 0))), (.int .u8 (.ofNat (nat_lit 0))), (.int .u8 (.ofNat (nat_lit 0))), (.int .u8 (.ofNat (nat_lit 0))), (.int .u8 (.ofNat (nat_lit 0))), (.int .u8 (.ofNat (nat_lit 0))), (.int .u8 (.ofNat (nat_lit 0))), (.int .u8 (.ofNat (nat_lit 0))), (.int .u8 (.ofNat (nat_lit 0))), (.int .u8 (.ofNat (nat_lit 0))), (.int .u8 (.ofNat (nat_lit 0))), (.int .u8 (.ofNat (nat_lit 0))), (.int .u8 (.ofNat (nat_lit 0))), (.int .u8 (.ofNat (nat_lit 0))), (.int .u8 (.ofNat (nat_lit 0))), (.int .u8 (.ofNat (nat_lit 0))), (.int .u8 (.ofNat (nat_lit 0))), (.int .u8 (.ofNat (nat_lit 0))), (.int .u8 (.ofNat (nat_lit 0))), (.int .u8 (.ofNat (nat_lit 0))), (.int .u8 (.ofNat (nat_lit 0))), (.int .u8 (.ofNat (nat_lit 0))), (.int .u8 (.ofNat (nat_lit 0))), (.int .u8 (.ofNat (nat_lit 0))), (.int .u8 (.ofNat (nat_lit 0))), (.int .u8 (.ofNat (nat_lit 0))), (.int .u8 (.ofNat (nat_lit 0))), (.int .u8 (.ofNat (nat_lit 0))), (.int .u8 (.ofNat (nat_lit 0))), (.int .u8 (.ofNat (nat_lit 0))), (.int .u8 (.ofNat (nat_lit 0))), (.int .u8 (.ofNat (nat_lit 0))), (.int .u8 (.ofNat (nat_lit 0))), (.int .u8 (.ofNat (nat_lit 0))), (.int .u8 (.ofNat (nat_lit 0))), (.int .u8 (.ofNat (nat_lit 0))), (.int .u8 (.ofNat (nat_lit 0))), (.int .u8 (.ofNat (nat_lit 0))), (.int .u8 (.ofNat (nat_lit 0))), (.int .u8 (.ofNat (nat_lit 0))), (.int .u8 (.ofNat (nat_lit 0))), (.int .u8 (.ofNat (nat_lit 0))), (.int .u8 (.ofNat (nat_lit 0))), (.int .u8 (.ofNat (nat_lit 0))), (.int .u8 (.ofNat (nat_lit 0))), (.int .u8 (.ofNat (nat_lit 0))), (.int .u8 (.ofNat (nat_lit 0))), (.int .u8 (.ofNat (nat_lit 0))), (.int .u8 (.ofNat (nat_lit 0))), (.int .u8 (.ofNat (nat_lit 0))), (.int .u8 (.ofNat (nat_lit 0))), (.int .u8 (.ofNat (nat_lit 0))), (.int .u8 (.ofNat (nat_lit 0))), (.int .u8 (.ofNat (nat_lit 0))), (.int .u8 (.ofNat (nat_lit 0))), (.int .u8 (.ofNat (nat_lit 0))), (.int .u8 (.ofNat (nat_lit 0))), (.int .u8 (.ofNat (nat_lit 0))), (.int .u8 (.ofNat (nat_lit 0))), (.int .u8 (.ofNat (nat_lit 0))), (.int .u8 (.ofNat (nat_lit 0))), (.int .u8 (.ofNat (nat_lit 0))), (.int .u8 (.ofNat (nat_lit 0))), (.int .u8 (.ofNat (nat_lit 0)))]
noncomputable def k207 : KFun := ⟨[rTmp (nat_lit 4) g4, rTmp (nat_lit 5) g5], (kSeq (oSet (xMove q18) p4 
(oSet (xMove q6) p5 
oEnd)) (kSeq (kSeq (oSet (xMove g0) p10 
(oSet (xMove g1) p11 
(oSet (xCall q385 [g10, g11]) p12 
(oSet (xMove g12) p6 
oEnd)))) (kSeq (oSet (xMove g6) p13 
(oSet (xLook (lkEq true .int g13 q6)) p14 
oEnd)) (kCond g14 (kSeq (oSet (xMove g6) p15 
(oSet (xMove q18) p4 
(oSet (xMove g15) p5 
oEnd))) kRet) kSkip))) (kSeq (oSet (xMove g0) p16 
(oSet (xNil g16) p17 
(oSet (xLook (lkFieldAddr (nat_lit 5) g17)) p18 
(oSet (xLook (lkLoad1 g18)) p19 
(oSet (xMove g1) p20 
(oSet (xLook (lkLookup (.one (.int .i64)) (.agg ⟨[(.int .u8 (.ofNat (nat_lit 0))), (.int .u8 (.ofNat (nat_lit 0))), (.int .u8 (.ofNat (nat_lit 0))), (.int .u8 (.ofNat (nat_lit 0))), (.int .u8 (.ofNat (nat_lit 0))), (.int .u8 (.ofNat (nat_lit 0))), (.int .u8 (.ofNat (nat_lit 0))), (.int .u8 (.ofNat (nat_lit 0))), (.int .u8 (.ofNat (nat_lit 0))), (.int .u8 (.ofNat (nat_lit 0))), (.int .u8 (.ofNat (nat_lit 0))), (.int .u8 (.ofNat (nat_lit 0))), (.int .u8 (.ofNat (nat_lit 0))), (.int .u8 (.ofNat (nat_lit 0))), (.int .u8 (.ofNat (nat_lit 0))), (.int .u8 (.ofNat (nat_lit 0))), (.int .u8 (.ofNat (nat_lit 0))), (.int .u8 (.ofNat (nat_lit 0))), (.int .u8 (.ofNat (nat_lit 0))), (.int .u8 (.ofNat (nat_lit 0))), (.int .u8 (.ofNat (nat_lit 0))), (.int .u8 (.ofNat (nat_lit 0))), (.int .u8 (.ofNat (nat_lit 0))), (.int .u8 (.ofNat (nat_lit 0))), (.int .u8 (.ofNat (nat_lit 0))), (.int .u8 (.ofNat (nat_lit 0))), (.int .u8 (.ofNat (nat_lit 0))), (.int .u8 (.ofNat (nat_lit 0))), (.int .u8 (.ofNat (nat_lit 0))), (.int .u8 (.ofNat (nat_lit 0))), (.int .u8 (.ofNat (nat_lit 0))), (.int .u8 (.ofNat (nat_lit 0))), (.int .u8 (.ofNat (nat_lit 0))), (.int .u8 (.ofNat (nat_lit 0))), (.int .u8 (.ofNat (nat_lit 0))), (.int .u8 (.ofNat (nat_lit 0))), (.int .u8 (.ofNat (nat_lit 0))), (.int .u8 (.ofNat (nat_lit 0))), (.int .u8 (.ofNat (nat_lit 0))), (.int .u8 (.ofNat (nat_lit 0))), (.int .u8 (.ofNat (nat_lit 0))), (.int .u8 (.ofNat (nat_lit 0))), (.int .u8 (.ofNat (nat_lit 0))), (.int .u8 (.ofNat (nat_lit 0))), (.int .u8 (.ofNat (nat_lit 0))), (.int .u8 (.ofNat (nat_lit 0))), (.int .u8 (.ofNat (nat_lit 0))), (.int .u8 (.ofNat (nat_lit 0))), (.int .u8 (.ofNat (nat_lit 0))), (.int .u8 (.ofNat (nat_lit 0))), (.int .u8 (.ofNat (nat_lit 0))), (.int .u8 (.ofNat (nat_lit 0))), (.int .u8 (.ofNat (nat_lit 0))), (.int .u8 (.ofNat (nat_lit 0))), (.int .u8 (.ofNat (nat_lit 0))), (.int .u8 (.ofNat (nat_lit 0))), (.int .u8 (.ofNat (nat_lit 0))), (.int .u8 (.ofNat (nat_lit 0))), (.int .u8 (.ofNat (nat_lit 0))), (.int .u8 (.ofNat (nat_lit 0))), (.int .u8 (.ofNat (nat_lit 0))), (.int .u8 (.ofNat (nat_lit 0))), (.int .u8 (.ofNat (nat_lit 0))), (.int .u8 (.ofNat (nat_lit 0)))]⟩) false g19 g20)) p21 
(oSet (xTurn (tnAlloc q386)) p7 
(oDo (xTurn (tnStore (nat_lit 64) g7 g21)) 
oEnd)))))))) (kSeq (kSeq (oSet (xMove g0) p22 
(oSet (xNil g22) p23 
(oSet (xLook (lkFieldAddr (nat_lit 6) g23)) p24 
(oSet (xLook (lkLoad1 g24)) p25 
(oSet (xLook (lkLen .sl g25)) p26 
(oSet (xMove q6) p27 
oEnd)))))) (kBlock (nat_lit 0) (kLoop (kSeq (oSet (xLook (lkBin .lss g27 g26)) p28 
oEnd) (kSeq (kCond g28 kSkip (kExit (nat_lit 0))) (kSeq (kBlock (nat_lit 1) (kSeq (oSet (xLook (lkIxSl (nat_lit 65) g25 g27)) p29 
(oSet (xLook (lkLoadN (nat_lit 65) g29)) p30 
(oSet (xTurn (tnAlloc q387)) p9 
(oDo (xTurn (tnStore (nat_lit 65) g9 g30)) 
oEnd)))) (kSeq (oSet (xLook (lkFieldAddr (nat_lit 0) g9)) p31 
(oSet (xLook (lkLoad1 g31)) p32 
(oSet (xMove g1) p33 
(oSet (xLook (lkEq false .int g32 g33)) p34 
oEnd)))) (kCond g34 (oSet (xLook (lkFieldAddr (nat_lit 1) g9)) p35 
(oSet (xLook (lkLoadN (nat_lit 64) g35)) p36 
(oDo (xTurn (tnStore (nat_lit 64) g7 g36)) 
oEnd))) kSkip)))) (oSet (xLook (lkBin .add g27 q16)) p37 
(oSet (xMove g37) p27 
oEnd)))))))) (kSeq (oSet (xLook (lkSliceArr (nat_lit 64) (nat_lit 1) g7 none none none)) p38 
(oSet (xMove g38) p4 
(oSet (xMove q6) p5 
oEnd))) kRet)))))⟩
noncomputable def k208 : KFun := ⟨[rTmp (nat_lit 2) g2], (kSeq (oSet (xMove q6) p2 
oEnd) (kSeq (kSeq (oSet (xMove g0) p3 
(oSet (xCall q373 [g3]) p4 
oEnd)) (kCond g4 (kSeq (oSet (xMove q6) p2 
oEnd) kRet) kSkip)) (kSeq (oSet (xMove g0) p5 
(oSet (xNil g5) p6 
(oSet (xLook (lkFieldAddr (nat_lit 4) g6)) p7 
(oSet (xLook (lkLoad1 g7)) p8 
(oSet (xMove g8) p2 
oEnd))))) kRet)))⟩
noncomputable def k209 : KFun := ⟨[rCellN (nat_lit 2) g2 (nat_lit 35), rTmp (nat_lit 3) g3, rTmp (nat_lit 4) g4], (kSeq (oSet (xTurn (tnAlloc q138)) p2 
(oSet (xMove q6) p3 
(oSet (xMove q6) p4 
oEnd))) (kSeq (oSet (xMove g0) p10 
(oSet (xCall q376 [g10]) p11 
(oSet (xMove g11) p9 
(oSet (xLook (lkExtract (nat_lit 0) g9)) p12 
(oSet (xLook (lkExtract (nat_lit 1) g9)) p13 
(oSet (xLook (lkExtract (nat_lit 2) g9)) p14 
(oSet (xMove g12) p5 
(oSet (xMove g13) p6 
(oSet (xMove g14) p7 
oEnd))))))))) (kSeq (kSeq (oSet (xMove g7) p15 
(oSet (xLook (lkEq true .int g15 q6)) p16 
oEnd)) (kCond g16 (kSeq (oSet (xLook (lkBuild q138 [])) p17 
(oSet (xMove g7) p18 
(oDo (xTurn (tnStore (nat_lit 35) g2 g17)) 
(oSet (xMove q6) p3 
(oSet (xMove g18) p4 
oEnd))))) kRet) kSkip)) (kSeq (kSeq (oSet (xMove g5) p19 
(oSet (xCall q377 [g19]) p20 
(oSet (xMove g20) p8 
oEnd))) (kBlock (nat_lit 0) (kSeq (oSet (xMove g8) p22 
(oSet (xLook (lkBin .geq g22 q6)) p23 
(oSet (xMove g23) p21 
oEnd))) (kCond g21 (kSeq (oSet (xMove g5) p24 
(oSet (xMove g8) p25 
(oSet (xLook (lkIxSl (nat_lit 1) g24 g25)) p26 
(oSet (xLook (lkLoad1 g26)) p27 
(oSet (xNil g27) p28 
(oSet (xLook (lkLoadN (nat_lit 35) g28)) p29 
(oSet (xMove g8) p30 
(oDo (xTurn (tnStore (nat_lit 35) g2 g29)) 
(oSet (xMove g30) p3 
(oSet (xMove q6) p4 
oEnd)))))))))) kRet) (kSeq (oSet (xMove g6) p32 
(oSet (xMove g32) p31 
oEnd)) (kCond g31 (kSeq (oSet (xLook (lkBuild q138 [])) p33 
(oDo (xTurn (tnStore (nat_lit 35) g2 g33)) 
(oSet (xMove q6) p3 
(oSet (xMove q63) p4 
oEnd)))) kRet) kSkip)))))) (kSeq (oSet (xLook (lkBuild q138 [])) p34 
(oDo (xTurn (tnStore (nat_lit 35) g2 g34)) 
(oSet (xMove q6) p3 
(oSet (xMove q67) p4 
oEnd)))) kRet)))))⟩
def q389 : List Value := [(.bool false)]
noncomputable def k212 : KFun := ⟨[rCell1 (nat_lit 4) g4], (kSeq (oSet (xTurn (tnBox g0)) p2 
(oSet (xTurn (tnAlloc q389)) p4 
oEnd)) (kSeq (kSeq (oSet (xLook (lkLoad1 g2)) p6 
(oSet (xLook (lkEq false .ptr g6 q5)) p7 
(oSet (xMove g7) p8 
(oSetIf (wantF g8) (xLook (lkLoad1 g2)) p9 
(oSetIf (wantF g8) (xNil g9) p10 
(oSetIf (wantF g8) (xLook (lkFieldAddr (nat_lit 0) g10)) p11 
(oSetIf (wantF g8) (xCall q279 [g11]) p12 
(oSet (xLook (lkPick g8 q2 g12)) p13 
(oSet (xMove g13) p14 
(oSetIf (wantF g14) (xLook (lkLoad1 g2)) p15 
(oSetIf (wantF g14) (xNil g15) p16 
(oSetIf (wantF g14) (xLook (lkFieldAddr (nat_lit 0) g16)) p17 
(oSetIf (wantF g14) (xLook (lkFieldAddr (nat_lit 2) g17)) p18 
(oSetIf (wantF g14) (xLook (lkFieldAddr (nat_lit 0) g18)) p19 
(oSetIf (wantF g14) (xLook (lkLoad1 g19)) p20 
(oSetIf (wantF g14) (xLook (lkEq true .int g20 q6)) p21 
(oSet (xLook (lkPick g14 q2 g21)) p22 
oEnd))))))))))))))))) (kCond g22 (kSeq (oDo (xTurn (tnStore (nat_lit 1) g4 q0)) 
oEnd) kRet) kSkip)) (kSeq (oSet (xLook (lkLoad1 g2)) p23 
(oSet (xNil g23) p24 
(oSet (xLook (lkFieldAddr (nat_lit 4) g24)) p25 
(oSet (xLook (lkLoad1 g25)) p26 
(oSet (xTurn (tnAlloc q55)) p5 
(oDo (xTurn (tnStore (nat_lit 1) g5 g26)) 
oEnd)))))) (kSeq (oSet (xLook (lkMkFunc (.func (nat_lit 312)) [] [g4, g5, g2])) p27 
(oDo (xDefer g27 []) 
oEnd)) (kSeq (oSet (xMove g1) p28 
(oSet (xCall g28 []) p29 
oEnd)) kRet)))))⟩
def q390 : OpdF := kC (.func (.func (nat_lit 214)) ⟨[]⟩ ⟨[]⟩)
noncomputable def k213 : KFun := ⟨[], (oSet (xLook (lkLoad1 g0)) p3 
(oSet (xLook (lkLoad1 g1)) p4 
(oSet (xCall q390 [g3, q6, g4, q83]) p5 
(oDo (xTurn (tnStore (nat_lit 1) g2 g5)) 
oEnd))))⟩
def q391 : OpdF := kC (.func (.func (nat_lit 314)) ⟨[]⟩ ⟨[]⟩)
def q392 : OpdF := kC (.int .u8 (.ofNat (nat_lit 127)))
def q393 : OpdF := kC (.int .u8 (.ofNat (nat_lit 0)))
noncomputable def k214 : KFun := ⟨[rTmp (nat_lit 8) g8], (kSeq (oSet (xMove q6) p8 
oEnd) (kSeq (oSet (xMove g0) p14 
(oSet (xNil g14) p15 
(oSet (xLook (lkFieldAddr (nat_lit 4) g15)) p16 
(oSet (xLook (lkLoad1 g16)) p17 
(oSet (xTurn (tnAlloc q55)) p9 
(oDo (xTurn (tnStore (nat_lit 1) g9 g17)) 
(oSet (xMove q6) p10 
(oSet (xMove q6) p11 
oEnd)))))))) (kSeq (oSet (xLook (lkMkFunc (.func (nat_lit 313)) [] [g9])) p18 
(oSet (xMove g18) p12 
oEnd)) (kSeq (kBlock (nat_lit 0) (kLoop (kBlock (nat_lit 1) (kSeq (oSet (xMove g0) p19 
(oSet (xCall q391 [g19, q16]) p20 
(oSet (xLook (lkIxSl (nat_lit 1) g20 q6)) p21 
(oSet (xLook (lkLoad1 g21)) p22 
(oSet (xMove g22) p13 
oEnd))))) (kSeq (oSet (xMove g10) p23 
(oSet (xMove g13) p24 
(oSet (xLook (lkBin .and g24 q392)) p25 
(oSet (xLook (lkIntTo .i64 g25)) p26 
(oSet (xMove g11) p27 
(oSet (xLook (lkBin .mul q36 g27)) p28 
(oSet (xLook (lkBin .shl g26 g28)) p29 
(oSet (xLook (lkBin .or g23 g29)) p30 
(oSet (xMove g30) p10 
oEnd))))))))) (kSeq (oSet (xMove g11) p31 
(oSet (xLook (lkBin .add g31 q16)) p32 
(oSet (xMove g32) p11 
oEnd))) (kSeq (kSeq (oSet (xMove g13) p33 
(oSet (xLook (lkBin .lss g33 q228)) p34 
oEnd)) (kCond g34 (kSeq (kSeq (oSet (xMove g13) p35 
(oSet (xLook (lkEq false .int g35 q393)) p36 
(oSet (xMove g36) p37 
(oSetIf (wantT g37) (xMove g11) p38 
(oSetIf (wantT g37) (xLook (lkBin .gtr g38 q16)) p39 
(oSet (xLook (lkPick g37 g39 q0)) p40 
oEnd)))))) (kCond g40 (oSet (xMove g12) p41 
(oSet (xCall g41 [q149]) p42 
oEnd)) kSkip)) (kExit (nat_lit 0))) kSkip)) (kSeq (oSet (xMove g11) p43 
(oSet (xLook (lkEq false .int g43 q379)) p44 
oEnd)) (kCond g44 (oSet (xMove g12) p45 
(oSet (xCall g45 [q77]) p46 
oEnd)) kSkip))))))))) (kSeq (kBlock (nat_lit 2) (kSeq (oSet (xMove g10) p48 
(oSet (xMove g1) p49 
(oSet (xLook (lkBin .lss g48 g49)) p50 
(oSet (xMove g50) p47 
oEnd)))) (kCond g47 (oSet (xMove g12) p51 
(oSet (xCall g51 [q77]) p52 
oEnd)) (kSeq (oSet (xMove g10) p54 
(oSet (xMove g2) p55 
(oSet (xLook (lkBin .gtr g54 g55)) p56 
(oSet (xMove g56) p53 
oEnd)))) (kCond g53 (oSet (xMove g12) p57 
(oSet (xMove g3) p58 
(oSet (xCall g57 [g58]) p59 
oEnd))) kSkip))))) (kSeq (oSet (xMove g10) p60 
(oSet (xMove g60) p8 
oEnd)) kRet))))))⟩
noncomputable def k215 : KFun := ⟨[rTmp (nat_lit 2) g2], (kSeq (oSet (xMove q0) p2 
oEnd) (kSeq (oSet (xMove g0) p3 
(oSet (xLook (lkEq false .ptr g3 q5)) p4 
(oSet (xMove g4) p5 
(oSetIf (wantF g5) (xMove g0) p6 
(oSetIf (wantF g5) (xNil g6) p7 
(oSetIf (wantF g5) (xLook (lkFieldAddr (nat_lit 0) g7)) p8 
(oSetIf (wantF g5) (xLook (lkLoad1 g8)) p9 
(oSetIf (wantF g5) (xLook (lkUn .not g9)) p10 
(oSet (xLook (lkPick g5 q2 g10)) p11 
(oSet (xMove g11) p2 
oEnd)))))))))) kRet))⟩
noncomputable def k216 : KFun := ⟨[rTmp (nat_lit 6) g6], (kSeq (oSet (xTurn (tnBox g0)) p3 
(oSet (xTurn (tnBox g1)) p4 
(oSet (xTurn (tnBox g2)) p5 
(oSet (xMove q6) p6 
oEnd)))) (kSeq (oSet (xTurn (tnAlloc q55)) p7 
(oDo (xTurn (tnStore (nat_lit 1) g7 q6)) 
oEnd)) (kSeq (kSeq (oSet (xLook (lkLoad1 g3)) p8 
(oSet (xLook (lkMkFunc (.func (nat_lit 315)) [] [g3, g4, g5, g7])) p9 
(oSet (xCall q278 [g8, g9]) p10 
(oSet (xLook (lkUn .not g10)) p11 
oEnd)))) (kCond g11 (kSeq (oSet (xMove q6) p6 
oEnd) kRet) kSkip)) (kSeq (oSet (xLook (lkLoad1 g7)) p12 
(oSet (xMove g12) p6 
oEnd)) kRet))))⟩
def q394 : List Value := [(.string ⟨⟨[]⟩⟩), (.string ⟨⟨[]⟩⟩), (.string ⟨⟨[]⟩⟩), (.string ⟨⟨[]⟩⟩), (.string ⟨⟨[]⟩⟩), (.string ⟨⟨[]⟩⟩), (.string ⟨⟨[]⟩⟩), (.string ⟨⟨[]⟩⟩), (.string ⟨⟨[]⟩⟩), (.string ⟨⟨[]⟩⟩), (.string ⟨⟨[]⟩⟩), (.string ⟨⟨[]⟩⟩), (.string ⟨⟨[]⟩⟩), (.string ⟨⟨[]⟩⟩), (.string ⟨⟨[]⟩⟩), (.string ⟨⟨[]⟩⟩)]
def q395 : OpdF := kC (.string ⟨⟨[97, 115]⟩⟩)
def q396 : OpdF := kC (.string ⟨⟨[97, 98]⟩⟩)
def q397 : OpdF := kC (.string ⟨⟨[97, 98, 99]⟩⟩)
def q398 : OpdF := kC (.string ⟨⟨[97, 98, 99, 110]⟩⟩)
def q399 : OpdF := kC (.string ⟨⟨[97, 110]⟩⟩)
def q400 : OpdF := kC (.string ⟨⟨[110]⟩⟩)
noncomputable def k217 : KFun := ⟨[rTmp (nat_lit 2) g2], (kSeq (oSet (xMove q111) p2 
oEnd) (kSeq (oSet (xLook (lkBuild q394 [((nat_lit 1), (nat_lit 1), q395), ((nat_lit 2), (nat_lit 1), q396), ((nat_lit 3), (nat_lit 1), q397), ((nat_lit 4), (nat_lit 1), q396), ((nat_lit 5), (nat_lit 1), q53), ((nat_lit 6), (nat_lit 1), q398), ((nat_lit 7), (nat_lit 1), q397), ((nat_lit 8), (nat_lit 1), q397), ((nat_lit 9), (nat_lit 1), q397), ((nat_lit 10), (nat_lit 1), q397), ((nat_lit 11), (nat_lit 1), q397), ((nat_lit 12), (nat_lit 1), q399), ((nat_lit 13), (nat_lit 1), q400), ((nat_lit 14), (nat_lit 1), q53), ((nat_lit 15), (nat_lit 1), q111)])) p4 
(oSet (xTurn (tnAlloc q394)) p3 
(oDo (xTurn (tnStore (nat_lit 16) g3 g4)) 
oEnd))) (kSeq (kSeq (oSet (xMove g0) p5 
(oSet (xLook (lkBin .lss g5 q16)) p6 
(oSet (xMove g6) p7 
(oSetIf (wantF g7) (xMove g0) p8 
(oSetIf (wantF g7) (xLook (lkBin .geq g8 q37)) p9 
(oSet (xLook (lkPick g7 q2 g9)) p10 
oEnd)))))) (kCond g10 (kSeq (oSet (xMove q111) p2 
oEnd) kRet) kSkip)) (kSeq (oSet (xMove g0) p11 
(oSet (xLook (lkIxArr (nat_lit 16) (nat_lit 1) g3 g11)) p12 
(oSet (xLook (lkLoad1 g12)) p13 
(oSet (xMove g13) p2 
oEnd)))) kRet))))⟩
noncomputable def k218 : KFun := ⟨[rTmp (nat_lit 4) g4], (kSeq (oSet (xTurn (tnBox g0)) p2 
(oSet (xTurn (tnBox g1)) p3 
(oSet (xMove q111) p4 
oEnd))) (kSeq (oSet (xTurn (tnAlloc q200)) p5 
(oDo (xTurn (tnStore (nat_lit 1) g5 q111)) 
oEnd)) (kSeq (kSeq (oSet (xLook (lkLoad1 g2)) p6 
(oSet (xLook (lkMkFunc (.func (nat_lit 316)) [] [g2, g3, g5])) p7 
(oSet (xCall q278 [g6, g7]) p8 
(oSet (xLook (lkUn .not g8)) p9 
oEnd)))) (kCond g9 (kSeq (oSet (xMove q111) p4 
oEnd) kRet) kSkip)) (kSeq (oSet (xLook (lkLoad1 g5)) p10 
(oSet (xMove g10) p4 
oEnd)) kRet))))⟩
def q401 : OpdF := kC (.int .i32 (.ofNat (nat_lit 97)))
def q402 : OpdF := kC (.int .i32 (.ofNat (nat_lit 98)))
def q403 : OpdF := kC (.int .i32 (.ofNat (nat_lit 99)))
noncomputable def k220 : KFun := ⟨[rTmp (nat_lit 4) g4], (kSeq (oSet (xMove q5) p4 
oEnd) (kSeq (kSeq (oSet (xMove g1) p5 
oEnd) (kBlock (nat_lit 0) (kSeq (oSet (xLook (lkEq false .int g5 q401)) p7 
(oSet (xMove g7) p6 
oEnd)) (kCond g6 (kSeq (oSet (xMove g0) p8 
(oSet (xNil g8) p9 
(oSet (xLook (lkFieldAddr (nat_lit 1) g9)) p10 
(oSet (xMove g10) p4 
oEnd)))) kRet) (kSeq (oSet (xLook (lkEq false .int g5 q402)) p12 
(oSet (xMove g12) p11 
oEnd)) (kCond g11 (kSeq (oSet (xMove g0) p13 
(oSet (xNil g13) p14 
(oSet (xLook (lkFieldAddr (nat_lit 2) g14)) p15 
(oSet (xMove g15) p4 
oEnd)))) kRet) (kSeq (oSet (xLook (lkEq false .int g5 q403)) p17 
(oSet (xMove g17) p16 
oEnd)) (kCond g16 (kSeq (oSet (xMove g0) p18 
(oSet (xNil g18) p19 
(oSet (xLook (lkFieldAddr (nat_lit 3) g19)) p20 
(oSet (xMove g20) p4 
oEnd)))) kRet) kSkip)))))))) (kSeq (oSet (xMove g0) p21 
(oSet (xNil g21) p22 
(oSet (xLook (lkFieldAddr (nat_lit 4) g22)) p23 
(oSet (xMove g23) p4 
oEnd)))) kRet)))⟩
def q404 : OpdF := kC (.int .i64 (.ofNat (nat_lit 13)))
noncomputable def k221 : KFun := ⟨[rTmp (nat_lit 4) g4], (kSeq (oSet (xMove q0) p4 
oEnd) (kSeq (oSet (xMove g0) p5 
(oSet (xMove g1) p6 
(oSet (xLook (lkIxSl (nat_lit 6) g5 g6)) p7 
(oSet (xLook (lkFieldAddr (nat_lit 0) g7)) p8 
(oSet (xLook (lkLoad1 g8)) p9 
(oSet (xLook (lkEq false .int g9 q326)) p10 
(oSet (xMove g10) p11 
(oSetIf (wantF g11) (xMove g0) p12 
(oSetIf (wantF g11) (xMove g1) p13 
(oSetIf (wantF g11) (xLook (lkIxSl (nat_lit 6) g12 g13)) p14 
(oSetIf (wantF g11) (xLook (lkFieldAddr (nat_lit 0) g14)) p15 
(oSetIf (wantF g11) (xLook (lkLoad1 g15)) p16 
(oSetIf (wantF g11) (xLook (lkEq false .int g16 q404)) p17 
(oSet (xLook (lkPick g11 q2 g17)) p18 
(oSet (xMove g18) p19 
(oSetIf (wantT g19) (xMove g0) p20 
(oSetIf (wantT g19) (xMove g1) p21 
(oSetIf (wantT g19) (xLook (lkIxSl (nat_lit 6) g20 g21)) p22 
(oSetIf (wantT g19) (xLook (lkFieldAddr (nat_lit 4) g22)) p23 
(oSetIf (wantT g19) (xLook (lkLoad1 g23)) p24 
(oSetIf (wantT g19) (xMove g0) p25 
(oSetIf (wantT g19) (xLook (lkLen .sl g25)) p26 
(oSetIf (wantT g19) (xLook (lkBin .sub g26 q16)) p27 
(oSetIf (wantT g19) (xMove g1) p28 
(oSetIf (wantT g19) (xLook (lkBin .sub g27 g28)) p29 
(oSetIf (wantT g19) (xLook (lkBin .gtr g24 g29)) p30 
(oSet (xLook (lkPick g19 g30 q0)) p31 
(oSet (xMove g31) p4 
oEnd)))))))))))))))))))))))))))) kRet))⟩
noncomputable def k222 : KFun := ⟨[], (kSeq (oSet xRecover p4 
oEnd) (kBlock (nat_lit 0) (kSeq (oSet (xLook (lkEq false .ifaceNil g4 q152)) p6 
oEnd) (kCond g6 (oSet (xMove g4) p1 
oEnd) (kSeq (oSet (xLook (lkAssertT (nat_lit 358) (.agg ⟨[(.int .i64 (.ofNat (nat_lit 0)))]⟩) true g4)) p7 
(oSet (xLook (lkExtract (nat_lit 1) g7)) p8 
(oSet (xLook (lkExtract (nat_lit 0) g7)) p9 
oEnd))) (kCond g8 (kSeq (oSet (xTurn (tnAlloc q55)) p2 
(oDo (xTurn (tnStore (nat_lit 1) g2 g9)) 
oEnd)) (oSet (xLook (lkLoad1 g0)) p10 
(oSet (xLook (lkFieldAddr (nat_lit 0) g2)) p11 
(oSet (xLook (lkLoad1 g11)) p12 
(oSet (xNil g10) p13 
(oSet (xLook (lkFieldAddr (nat_lit 11) g13)) p14 
(oSet (xLook (lkFieldAddr (nat_lit 0) g14)) p15 
(oDo (xTurn (tnStore (nat_lit 1) g15 g12)) 
oEnd)))))))) (kSeq (oSet (xMove g4) p3 
oEnd) (oSet (xMove g3) p5 
(oDo (xPanic g5) 
oEnd)))))))))⟩
def q405 : OpdF := kC (.func (.func (nat_lit 317)) ⟨[]⟩ ⟨[]⟩)
def q406 : OpdF := kC (.func (.func (nat_lit 318)) ⟨[]⟩ ⟨[]⟩)
def q407 : OpdF := kC (.func (.func (nat_lit 319)) ⟨[]⟩ ⟨[]⟩)
def q408 : OpdF := kC (.func (.func (nat_lit 320)) ⟨[]⟩ ⟨[]⟩)
def q409 : OpdF := kC (.func (.func (nat_lit 321)) ⟨[]⟩ ⟨[]⟩)
def q410 : OpdF := kC (.func (.func (nat_lit 322)) ⟨[]⟩ ⟨[]⟩)
def q411 : OpdF := kC (.func (.func (nat_lit 323)) ⟨[]⟩ ⟨[]⟩)
def q412 : OpdF := kC (.func (.func (nat_lit 324)) ⟨[]⟩ ⟨[]⟩)
def q413 : OpdF := kC (.func (.func (nat_lit 325)) ⟨[]⟩ ⟨[]⟩)
def q414 : OpdF := kC (.func (.func (nat_lit 326)) ⟨[]⟩ ⟨[]⟩)
def q415 : OpdF := kC (.func (.func (nat_lit 327)) ⟨[]⟩ ⟨[]⟩)
def q416 : OpdF := kC (.func (.func (nat_lit 328)) ⟨[]⟩ ⟨[]⟩)
def q417 : OpdF := kC (.func (.func (nat_lit 329)) ⟨[]⟩ ⟨[]⟩)
def q418 : OpdF := kC (.func (.func (nat_lit 330)) ⟨[]⟩ ⟨[]⟩)
def q419 : OpdF := kC (.func (.func (nat_lit 331)) ⟨[]⟩ ⟨[]⟩)
noncomputable def k223 : KFun := ⟨[rCellN (nat_lit 0) g0 (nat_lit 16)], (kSeq (oSet (xTurn (tnAlloc q291)) p0 
oEnd) (kSeq (oSet (xLook (lkBuild q291 [((nat_lit 1), (nat_lit 1), q405), ((nat_lit 2), (nat_lit 1), q406), ((nat_lit 3), (nat_lit 1), q407), ((nat_lit 4), (nat_lit 1), q408), ((nat_lit 5), (nat_lit 1), q409), ((nat_lit 6), (nat_lit 1), q410), ((nat_lit 7), (nat_lit 1), q411), ((nat_lit 8), (nat_lit 1), q412), ((nat_lit 9), (nat_lit 1), q413), ((nat_lit 10), (nat_lit 1), q414), ((nat_lit 11), (nat_lit 1), q415), ((nat_lit 12), (nat_lit 1), q416), ((nat_lit 13), (nat_lit 1), q417), ((nat_lit 14), (nat_lit 1), q418), ((nat_lit 15), (nat_lit 1), q419)])) p1 
(oDo (xTurn (tnStore (nat_lit 16) g0 g1)) 
oEnd)) kRet))⟩
noncomputable def k224 : KFun := ⟨[], (kSeq (kSeq (oSet (xMove g0) p2 
(oSet (xNil g2) p3 
(oSet (xLook (lkFieldAddr (nat_lit 11) g3)) p4 
(oSet (xLook (lkFieldAddr (nat_lit 1) g4)) p5 
(oSet (xLook (lkLoad1 g5)) p6 
(oSet (xLook (lkEq false .int g6 q162)) p7 
oEnd)))))) (kCond g7 (oSet (xLook (lkBuild q55 [((nat_lit 0), (nat_lit 1), q35)])) p8 
(oSet (xLook (lkMkIface (nat_lit 358) g8)) p9 
(oDo (xPanic g9) 
oEnd))) kSkip)) (oSet (xMove g0) p10 
(oSet (xNil g10) p11 
(oSet (xLook (lkFieldAddr (nat_lit 11) g11)) p12 
(oSet (xLook (lkFieldAddr (nat_lit 1) g12)) p13 
(oSet (xLook (lkLoad1 g13)) p14 
(oSet (xLook (lkBin .add g14 q16)) p15 
(oSet (xNil g10) p16 
(oSet (xLook (lkFieldAddr (nat_lit 11) g16)) p17 
(oSet (xLook (lkFieldAddr (nat_lit 1) g17)) p18 
(oDo (xTurn (tnStore (nat_lit 1) g18 g15)) 
oEnd)))))))))))⟩

end Go.Proofs.YtmahngadjllfpaaGreatDoor.Eng
