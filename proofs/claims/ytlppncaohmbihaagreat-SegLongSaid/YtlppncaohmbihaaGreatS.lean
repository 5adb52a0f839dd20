/-
  The functions that the law reaches, as the abstract machine runs them, printed by program. No condition.
-/
import Derived.Test.YtlppncaohmbihaaGreatA
namespace Go.Proofs.YtlppncaohmbihaaGreat.Eng
open Go Go.Eng
set_option linter.unusedVariables false
set_option maxRecDepth 100000

def q0 : OpdF := kC (.bool false)
def q1 : OpdF := kC (.func (.func (nat_lit 4)) ⟨[]⟩ ⟨[]⟩)
def q2 : OpdF := kC (.int .i64 (.ofNat (nat_lit 3)))
def q3 : OpdF := kC (.func (.func (nat_lit 5)) ⟨[]⟩ ⟨[]⟩)
def q4 : OpdF := kC (.pointer none)
def q5 : OpdF := kC (.int .i64 (.ofNat (nat_lit 2001)))
def q6 : List Value := [(.string ⟨⟨[]⟩⟩)]
def q7 : OpdF := kC (.func (.func (nat_lit 6)) ⟨[]⟩ ⟨[]⟩)
def q8 : List Value := [(.int .u8 (.ofNat (nat_lit 0))), (.int .u8 (.ofNat (nat_lit 0))), (.int .u8 (.ofNat (nat_lit 0))), (.int .u8 (.ofNat (nat_lit 0))), (.int .u8 (.ofNat (nat_lit 0))), (.int .u8 (.ofNat (nat_lit 0))), (.int .u8 (.ofNat (nat_lit 0))), (.int .u8 (.ofNat (nat_lit 0))), (.int .u8 (.ofNat (nat_lit 0))), (.int .u8 (.ofNat (nat_lit 0))), (.int .u8 (.ofNat (nat_lit 0))), (.int .u8 (.ofNat (nat_lit 0))), (.int .u8 (.ofNat (nat_lit 0))), (.int .u8 (.ofNat (nat_lit 0))), (.int .u8 (.ofNat (nat_lit 0))), (.int .u8 (.ofNat (nat_lit 0))), (.int .u8 (.ofNat (nat_lit 0))), (.int .u8 (.ofNat (nat_lit 0))), (.int .u8 (.ofNat (nat_lit 0))), (.int .u8 (.ofNat (nat_lit 0))), (.int .u8 (.ofNat (nat_lit 0))), (.int .u8 (.ofNat (nat_lit 0))), (.int .u8 (.ofNat (nat_lit 0))), (.int .u8 (.ofNat (nat_lit 0))), (.int .u8 (.ofNat (nat_lit 0))), (.int .u8 (.ofNat (nat_lit 0))), (.int .u8 (.ofNat (nat_lit 0))), (.int .u8 (.ofNat (nat_lit 0))), (.int .u8 (.ofNat (nat_lit 0))), (.int .u8 (.ofNat (nat_lit 0))), (.int .u8 (.ofNat (nat_lit 0))), (.int .u8 (.ofNat (nat_lit 0)))]
def q9 : OpdF := kC (.int .i64 (.ofNat (nat_lit 8001)))
def q10 : List Value := [(.int .u8 (.ofNat (nat_lit 0)))]
def q11 : List Value := [(.string ⟨⟨[]⟩⟩), (.string ⟨⟨[]⟩⟩)]
def q12 : OpdF := kC (.string ⟨⟨[97]⟩⟩)
def q13 : OpdF := kC (.bool true)
def q14 : OpdF := kC (.func (.func (nat_lit 7)) ⟨[]⟩ ⟨[]⟩)
def q15 : OpdF := kC (.int .i64 (.ofNat (nat_lit 0)))
def q16 : List Value := [(.slice none (nat_lit 0) (nat_lit 0)), (.map none), (.pointer none), (.int .i64 (.ofNat (nat_lit 0))), (.int .u8 (.ofNat (nat_lit 0))), (.int .u8 (.ofNat (nat_lit 0))), (.int .u8 (.ofNat (nat_lit 0))), (.int .u8 (.ofNat (nat_lit 0))), (.int .u8 (.ofNat (nat_lit 0))), (.int .u8 (.ofNat (nat_lit 0))), (.int .u8 (.ofNat (nat_lit 0))), (.int .u8 (.ofNat (nat_lit 0))), (.int .u8 (.ofNat (nat_lit 0))), (.int .u8 (.ofNat (nat_lit 0))), (.int .u8 (.ofNat (nat_lit 0))), (.int .u8 (.ofNat (nat_lit 0))), (.int .u8 (.ofNat (nat_lit 0))), (.int .u8 (.ofNat (nat_lit 0))), (.int .u8 (.ofNat (nat_lit 0))), (.int .u8 (.ofNat (nat_lit 0))), (.int .u8 (.ofNat (nat_lit 0))), (.int .u8 (.ofNat (nat_lit 0))), (.int .u8 (.ofNat (nat_lit 0))), (.int .u8 (.ofNat (nat_lit 0))), (.int .u8 (.ofNat (nat_lit 0))), (.int .u8 (.ofNat (nat_lit 0))), (.int .u8 (.ofNat (nat_lit 0))), (.int .u8 (.ofNat (nat_lit 0))), (.int .u8 (.ofNat (nat_lit 0))), (.int .u8 (.ofNat (nat_lit 0))), (.int .u8 (.ofNat (nat_lit 0))), (.int .u8 (.ofNat (nat_lit 0))), (.int .u8 (.ofNat (nat_lit 0))), (.int .u8 (.ofNat (nat_lit 0))), (.int .u8 (.ofNat (nat_lit 0))), (.int .u8 (.ofNat (nat_lit 0))), (.int .i64 (.ofNat (nat_lit 0))), (.int .i64 (.ofNat (nat_lit 0))), (.map none), (.bool false)]
def q17 : List Value := [(.pointer none), (.pointer none)]
def q18 : OpdF := kC (.int .i64 (.ofNat (nat_lit 2)))
def q19 : OpdF := kC (.slice none (nat_lit 0) (nat_lit 0))
def q20 : OpdF := kC (.func (.func (nat_lit 8)) ⟨[]⟩ ⟨[]⟩)
def q21 : OpdF := kC (.func (.func (nat_lit 9)) ⟨[]⟩ ⟨[]⟩)
def q22 : OpdF := kC (.func (.func (nat_lit 10)) ⟨[]⟩ ⟨[]⟩)
def q23 : OpdF := kC (.func (.func (nat_lit 11)) ⟨[]⟩ ⟨[]⟩)
def q24 : OpdF := kC (.func (.func (nat_lit 12)) ⟨[]⟩ ⟨[]⟩)
def q25 : OpdF := kC (.func (.func (nat_lit 13)) ⟨[]⟩ ⟨[]⟩)
def q26 : OpdF := kC (.int .i64 (.ofNat (nat_lit 1)))
def q27 : OpdF := kC (.func (.func (nat_lit 14)) ⟨[]⟩ ⟨[]⟩)
noncomputable def k3 : KFun := ⟨[rTmp (nat_lit 4) g4], (kSeq (oSet (xTurn (tnBox g1)) p3 
(oSet (xMove q0) p4 
oEnd)) (kSeq (oSet (xMove g0) p24 
(oSet (xCall q1 [g24, q2]) p25 
(oSet (xMove g25) p0 
oEnd))) (kSeq (oSet (xCall q3 []) p27 
(oSet (xMove g27) p26 
(oSet (xLook (lkExtract (nat_lit 0) g26)) p28 
(oSet (xLook (lkExtract (nat_lit 1) g26)) p29 
(oSet (xMove g28) p5 
(oSet (xMove g29) p6 
oEnd)))))) (kSeq (oSet (xMove q4) p7 
oEnd) (kSeq (kSeq (oSet (xMove g6) p30 
(oSet (xLook (lkEq false .ptr g30 q4)) p31 
oEnd)) (kCond g31 (kSeq (oSet (xMove q0) p4 
oEnd) kRet) kSkip)) (kSeq (oSet (xMove g6) p33 
(oSet (xMove g0) p34 
(oSet (xLook (lkBin .add q5 g34)) p35 
(oSet (xTurn (tnMkSlice q6 g35 g35)) p36 
(oSet (xCall q7 [g33, g36]) p37 
(oSet (xMove g37) p32 
(oSet (xLook (lkExtract (nat_lit 0) g32)) p38 
(oSet (xLook (lkExtract (nat_lit 1) g32)) p39 
(oSet (xTurn (tnAlloc q8)) p8 
(oDo (xTurn (tnStore (nat_lit 32) g8 g38)) 
(oSet (xMove g39) p9 
oEnd))))))))))) (kSeq (oSet (xMove g6) p41 
(oSet (xMove g0) p42 
(oSet (xLook (lkBin .add q9 g42)) p43 
(oSet (xTurn (tnMkSlice q10 g43 g43)) p44 
(oSet (xLook (lkBytesTo g44)) p45 
(oSet (xTurn (tnBuildSlice q11 [((nat_lit 0), (nat_lit 1), q12), ((nat_lit 1), (nat_lit 1), g45)] (nat_lit 2))) p46 
(oSet (xCall q7 [g41, g46]) p47 
(oSet (xMove g47) p40 
(oSet (xLook (lkExtract (nat_lit 0) g40)) p48 
(oSet (xLook (lkExtract (nat_lit 1) g40)) p49 
(oSet (xTurn (tnAlloc q8)) p10 
(oDo (xTurn (tnStore (nat_lit 32) g10 g48)) 
(oSet (xMove g49) p11 
oEnd))))))))))))) (kSeq (kSeq (oSet (xLook (lkLoadN (nat_lit 32) g8)) p50 
(oSet (xLook (lkBuild q8 [])) p51 
(oSet (xLook (lkEq true (.flat [(.int .u8), (.int .u8), (.int .u8), (.int .u8), (.int .u8), (.int .u8), (.int .u8), (.int .u8), (.int .u8), (.int .u8), (.int .u8), (.int .u8), (.int .u8), (.int .u8), (.int .u8), (.int .u8), (.int .u8), (.int .u8), (.int .u8), (.int .u8), (.int .u8), (.int .u8), (.int .u8), (.int .u8), (.int .u8), (.int .u8), (.int .u8), (.int .u8), (.int .u8), (.int .u8), (.int .u8), (.int .u8)]) g50 g51)) p52 
(oSet (xMove g52) p53 
(oSetIf (wantF g53) (xMove g9) p54 
(oSetIf (wantF g53) (xLook (lkEq true .int g54 q2)) p55 
(oSet (xLook (lkPick g53 q13 g55)) p56 
(oSet (xMove g56) p57 
(oSetIf (wantF g57) (xLook (lkLoadN (nat_lit 32) g10)) p58 
(oSetIf (wantF g57) (xLook (lkBuild q8 [])) p59 
(oSetIf (wantF g57) (xLook (lkEq true (.flat [(.int .u8), (.int .u8), (.int .u8), (.int .u8), (.int .u8), (.int .u8), (.int .u8), (.int .u8), (.int .u8), (.int .u8), (.int .u8), (.int .u8), (.int .u8), (.int .u8), (.int .u8), (.int .u8), (.int .u8), (.int .u8), (.int .u8), (.int .u8), (.int .u8), (.int .u8), (.int .u8), (.int .u8), (.int .u8), (.int .u8), (.int .u8), (.int .u8), (.int .u8), (.int .u8), (.int .u8), (.int .u8)]) g58 g59)) p60 
(oSet (xLook (lkPick g57 q13 g60)) p61 
(oSet (xMove g61) p62 
(oSetIf (wantF g62) (xMove g11) p63 
(oSetIf (wantF g62) (xLook (lkEq true .int g63 q2)) p64 
(oSet (xLook (lkPick g62 q13 g64)) p65 
(oSet (xMove g65) p66 
(oSetIf (wantF g66) (xMove g6) p67 
(oSetIf (wantF g66) (xCall q14 [g67]) p68 
(oSetIf (wantF g66) (xLook (lkLen .sl g68)) p69 
(oSetIf (wantF g66) (xLook (lkEq true .int g69 q15)) p70 
(oSet (xLook (lkPick g66 q13 g70)) p71 
oEnd)))))))))))))))))))))) (kCond g71 (kSeq (oSet (xMove q0) p4 
oEnd) kRet) kSkip)) (kSeq (oSet (xMove g7) p72 
(oSet (xLook (lkBuild q16 [])) p73 
(oSet (xTurn (tnBox g73)) p74 
(oSet (xTurn (tnBuildSlice q17 [((nat_lit 0), (nat_lit 1), g72), ((nat_lit 1), (nat_lit 1), g74)] (nat_lit 2))) p75 
(oSet (xMove g75) p12 
oEnd))))) (kSeq (kSeq (oSet (xMove q15) p13 
oEnd) (kBlock (nat_lit 0) (kLoop (kSeq (kSeq (oSet (xMove g13) p76 
(oSet (xLook (lkBin .lss g76 q18)) p77 
oEnd)) (kCond g77 kSkip (kExit (nat_lit 0)))) (kSeq (kBlock (nat_lit 1) (kSeq (oSet (xMove g12) p81 
(oSet (xMove g13) p82 
(oSet (xLook (lkIxSl (nat_lit 1) g81 g82)) p83 
(oSet (xLook (lkLoad1 g83)) p84 
(oSet (xCall q7 [g84, q19]) p85 
(oSet (xMove g85) p80 
(oSet (xLook (lkExtract (nat_lit 0) g80)) p86 
(oSet (xLook (lkExtract (nat_lit 1) g80)) p87 
(oSet (xMove g87) p9 
oEnd))))))))) (kSeq (kDraw 
(dLook (nat_lit 0) [] [] (lkMove g12) p89 
(dLook (nat_lit 1) [] [] (lkMove g13) p90 
(dLook (nat_lit 2) [] [] (lkIxSl (nat_lit 1) g89 g90) p91 
(dLook (nat_lit 3) [] [] (lkLoad1 g91) p92 
(dLook (nat_lit 4) [] [] (lkLoadN (nat_lit 32) g3) p93 
(dTurn (nat_lit 5) [] [] true (xCall q20 [g92, g93, q15, q15, q19]) p94 
(dLook (nat_lit 6) [] [(nat_lit 5)] (lkMove g94) p88 
(dLook (nat_lit 7) [] [(nat_lit 5)] (lkExtract (nat_lit 0) g88) p95 
(dLook (nat_lit 8) [] [(nat_lit 5)] (lkExtract (nat_lit 1) g88) p96 
(dLook (nat_lit 9) [] [(nat_lit 5)] (lkMove g96) p11 (dEnd [(nat_lit 89), (nat_lit 90), (nat_lit 91), (nat_lit 92), (nat_lit 93), (nat_lit 94), (nat_lit 88), (nat_lit 95), (nat_lit 96), (nat_lit 11)])))))))))))) (kSeq (kDraw 
(dLook (nat_lit 0) [] [] (lkMove g12) p98 
(dLook (nat_lit 1) [] [] (lkMove g13) p99 
(dLook (nat_lit 2) [] [] (lkIxSl (nat_lit 1) g98 g99) p100 
(dLook (nat_lit 3) [] [] (lkLoad1 g100) p101 
(dLook (nat_lit 4) [] [] (lkLoadN (nat_lit 32) g3) p102 
(dTurn (nat_lit 5) [] [] true (xCall q21 [g101, g102]) p103 
(dLook (nat_lit 6) [] [(nat_lit 5)] (lkMove g103) p97 
(dLook (nat_lit 7) [] [(nat_lit 5)] (lkExtract (nat_lit 0) g97) p104 
(dLook (nat_lit 8) [] [(nat_lit 5)] (lkExtract (nat_lit 1) g97) p105 
(dLook (nat_lit 9) [] [(nat_lit 5)] (lkMove g104) p14 
(dLook (nat_lit 10) [] [(nat_lit 5)] (lkMove g105) p15 (dEnd [(nat_lit 98), (nat_lit 99), (nat_lit 100), (nat_lit 101), (nat_lit 102), (nat_lit 103), (nat_lit 97), (nat_lit 104), (nat_lit 105), (nat_lit 14), (nat_lit 15)]))))))))))))) (kSeq (kDraw 
(dLook (nat_lit 0) [] [] (lkMove g12) p107 
(dLook (nat_lit 1) [] [] (lkMove g13) p108 
(dLook (nat_lit 2) [] [] (lkIxSl (nat_lit 1) g107 g108) p109 
(dLook (nat_lit 3) [] [] (lkLoad1 g109) p110 
(dLook (nat_lit 4) [] [] (lkLoadN (nat_lit 32) g3) p111 
(dTurn (nat_lit 5) [] [] true (xCall q22 [g110, g111, q15]) p112 
(dLook (nat_lit 6) [] [(nat_lit 5)] (lkMove g112) p106 
(dLook (nat_lit 7) [] [(nat_lit 5)] (lkExtract (nat_lit 0) g106) p113 
(dLook (nat_lit 8) [] [(nat_lit 5)] (lkExtract (nat_lit 1) g106) p114 
(dLook (nat_lit 9) [] [(nat_lit 5)] (lkMove g113) p16 
(dLook (nat_lit 10) [] [(nat_lit 5)] (lkMove g114) p17 (dEnd [(nat_lit 107), (nat_lit 108), (nat_lit 109), (nat_lit 110), (nat_lit 111), (nat_lit 112), (nat_lit 106), (nat_lit 113), (nat_lit 114), (nat_lit 16), (nat_lit 17)]))))))))))))) (kSeq (kDraw 
(dLook (nat_lit 0) [] [] (lkMove g12) p116 
(dLook (nat_lit 1) [] [] (lkMove g13) p117 
(dLook (nat_lit 2) [] [] (lkIxSl (nat_lit 1) g116 g117) p118 
(dLook (nat_lit 3) [] [] (lkLoad1 g118) p119 
(dLook (nat_lit 4) [] [] (lkLoadN (nat_lit 32) g3) p120 
(dTurn (nat_lit 5) [] [] true (xCall q23 [g119, g120]) p121 
(dLook (nat_lit 6) [] [(nat_lit 5)] (lkMove g121) p115 
(dLook (nat_lit 7) [] [(nat_lit 5)] (lkExtract (nat_lit 0) g115) p122 
(dLook (nat_lit 8) [] [(nat_lit 5)] (lkExtract (nat_lit 1) g115) p123 
(dLook (nat_lit 9) [] [(nat_lit 5)] (lkMove g122) p18 
(dLook (nat_lit 10) [] [(nat_lit 5)] (lkMove g123) p19 (dEnd [(nat_lit 116), (nat_lit 117), (nat_lit 118), (nat_lit 119), (nat_lit 120), (nat_lit 121), (nat_lit 115), (nat_lit 122), (nat_lit 123), (nat_lit 18), (nat_lit 19)]))))))))))))) (kSeq (kDraw 
(dLook (nat_lit 0) [] [] (lkMove g12) p125 
(dLook (nat_lit 1) [] [] (lkMove g13) p126 
(dLook (nat_lit 2) [] [] (lkIxSl (nat_lit 1) g125 g126) p127 
(dLook (nat_lit 3) [] [] (lkLoad1 g127) p128 
(dLook (nat_lit 4) [] [] (lkLoadN (nat_lit 32) g3) p129 
(dTurn (nat_lit 5) [] [] true (xCall q24 [g128, g129]) p130 
(dLook (nat_lit 6) [] [(nat_lit 5)] (lkMove g130) p124 
(dLook (nat_lit 7) [] [(nat_lit 5)] (lkExtract (nat_lit 0) g124) p131 
(dLook (nat_lit 8) [] [(nat_lit 5)] (lkExtract (nat_lit 1) g124) p132 
(dLook (nat_lit 9) [] [(nat_lit 5)] (lkMove g131) p20 
(dLook (nat_lit 10) [] [(nat_lit 5)] (lkMove g132) p21 (dEnd [(nat_lit 125), (nat_lit 126), (nat_lit 127), (nat_lit 128), (nat_lit 129), (nat_lit 130), (nat_lit 124), (nat_lit 131), (nat_lit 132), (nat_lit 20), (nat_lit 21)]))))))))))))) (kSeq (kDraw 
(dLook (nat_lit 0) [] [] (lkMove g12) p134 
(dLook (nat_lit 1) [] [] (lkMove g13) p135 
(dLook (nat_lit 2) [] [] (lkIxSl (nat_lit 1) g134 g135) p136 
(dLook (nat_lit 3) [] [] (lkLoad1 g136) p137 
(dLook (nat_lit 4) [] [] (lkLoadN (nat_lit 32) g3) p138 
(dLook (nat_lit 5) [] [] (lkLoadN (nat_lit 32) g3) p139 
(dTurn (nat_lit 6) [] [] true (xCall q25 [g137, g138, g139]) p140 
(dLook (nat_lit 7) [] [(nat_lit 6)] (lkMove g140) p133 
(dLook (nat_lit 8) [] [(nat_lit 6)] (lkExtract (nat_lit 0) g133) p141 
(dLook (nat_lit 9) [] [(nat_lit 6)] (lkExtract (nat_lit 1) g133) p142 
(dLook (nat_lit 10) [] [(nat_lit 6)] (lkMove g141) p22 
(dLook (nat_lit 11) [] [(nat_lit 6)] (lkMove g142) p23 (dEnd [(nat_lit 134), (nat_lit 135), (nat_lit 136), (nat_lit 137), (nat_lit 138), (nat_lit 139), (nat_lit 140), (nat_lit 133), (nat_lit 141), (nat_lit 142), (nat_lit 22), (nat_lit 23)])))))))))))))) (kSeq (oSet (xMove g9) p143 
(oSet (xLook (lkEq true .int g143 q26)) p144 
(oSet (xMove g144) p145 
(oSetIf (wantF g145) (xMove g11) p146 
(oSetIf (wantF g145) (xLook (lkEq true .int g146 q26)) p147 
(oSet (xLook (lkPick g145 q13 g147)) p148 
(oSet (xMove g148) p149 
(oSetIf (wantF g149) (xMove g15) p150 
(oSetIf (wantF g149) (xLook (lkEq true .int g150 q26)) p151 
(oSet (xLook (lkPick g149 q13 g151)) p152 
(oSet (xMove g152) p153 
(oSetIf (wantF g153) (xMove g17) p154 
(oSetIf (wantF g153) (xLook (lkEq true .int g154 q26)) p155 
(oSet (xLook (lkPick g153 q13 g155)) p156 
(oSet (xMove g156) p157 
(oSetIf (wantF g157) (xMove g19) p158 
(oSetIf (wantF g157) (xLook (lkEq true .int g158 q26)) p159 
(oSet (xLook (lkPick g157 q13 g159)) p160 
(oSet (xMove g160) p161 
(oSetIf (wantF g161) (xMove g21) p162 
(oSetIf (wantF g161) (xLook (lkEq true .int g162 q26)) p163 
(oSet (xLook (lkPick g161 q13 g163)) p164 
(oSet (xMove g164) p165 
(oSetIf (wantF g165) (xMove g23) p166 
(oSetIf (wantF g165) (xLook (lkEq true .int g166 q26)) p167 
(oSet (xLook (lkPick g165 q13 g167)) p168 
oEnd)))))))))))))))))))))))))) (kCond g168 (kSeq (oSet (xMove q0) p4 
oEnd) kRet) kSkip)))))))))) (oSet (xMove g13) p78 
(oSet (xLook (lkBin .add g78 q26)) p79 
(oSet (xMove g79) p13 
oEnd)))))))) (kSeq (oSet (xCall q27 []) p169 
(oSet (xMove g169) p4 
oEnd)) kRet)))))))))))⟩
noncomputable def k4 : KFun := ⟨[rTmp (nat_lit 4) g4], (kSeq (oSet (xMove q15) p4 
oEnd) (kSeq (kSeq (oSet (xMove g1) p5 
(oSet (xLook (lkBin .lss g5 q26)) p6 
oEnd)) (kCond g6 (kSeq (oSet (xMove q15) p4 
oEnd) kRet) kSkip)) (kSeq (oSet (xMove g0) p7 
(oSet (xMove g1) p8 
(oSet (xLook (lkBin .rem g7 g8)) p9 
(oSet (xMove g9) p0 
oEnd)))) (kSeq (kSeq (oSet (xMove g0) p10 
(oSet (xLook (lkBin .lss g10 q15)) p11 
oEnd)) (kCond g11 (oSet (xMove g0) p12 
(oSet (xMove g1) p13 
(oSet (xLook (lkBin .add g12 g13)) p14 
(oSet (xMove g14) p0 
oEnd)))) kSkip)) (kSeq (oSet (xMove g0) p15 
(oSet (xMove g15) p4 
oEnd)) kRet)))))⟩
def q28 : OpdF := kC (.func (.func (nat_lit 15)) ⟨[]⟩ ⟨[]⟩)
def q29 : OpdF := kC (.int .i64 (.ofNat (nat_lit 4000)))
def q30 : OpdF := kC (.func (.func (nat_lit 16)) ⟨[]⟩ ⟨[]⟩)
noncomputable def k5 : KFun := ⟨[rTmp (nat_lit 0) g0, rTmp (nat_lit 1) g1], (kSeq (oSet (xMove q4) p0 
(oSet (xMove q4) p1 
oEnd)) (kSeq (oSet (xCall q28 [q29]) p7 
(oSet (xMove g7) p6 
(oSet (xLook (lkExtract (nat_lit 0) g6)) p8 
(oSet (xLook (lkExtract (nat_lit 1) g6)) p9 
(oSet (xMove g8) p2 
(oSet (xMove g9) p3 
oEnd)))))) (kSeq (kSeq (oSet (xMove g3) p10 
(oSet (xLook (lkEq true .int g10 q15)) p11 
(oSet (xMove g11) p12 
(oSetIf (wantF g12) (xMove g2) p13 
(oSetIf (wantF g12) (xLook (lkEq false .ptr g13 q4)) p14 
(oSet (xLook (lkPick g12 q13 g14)) p15 
oEnd)))))) (kCond g15 (kSeq (oSet (xMove q4) p0 
(oSet (xMove q4) p1 
oEnd)) kRet) kSkip)) (kSeq (oSet (xMove g2) p17 
(oSet (xCall q30 [g17]) p18 
(oSet (xMove g18) p16 
(oSet (xLook (lkExtract (nat_lit 0) g16)) p19 
(oSet (xLook (lkExtract (nat_lit 1) g16)) p20 
(oSet (xMove g19) p4 
(oSet (xMove g20) p5 
oEnd))))))) (kSeq (kSeq (oSet (xMove g5) p21 
(oSet (xLook (lkEq true .int g21 q15)) p22 
oEnd)) (kCond g22 (kSeq (oSet (xMove q4) p0 
(oSet (xMove q4) p1 
oEnd)) kRet) kSkip)) (kSeq (oSet (xMove g2) p23 
(oSet (xMove g4) p24 
(oSet (xMove g23) p0 
(oSet (xMove g24) p1 
oEnd)))) kRet))))))⟩
def q31 : OpdF := kC (.func (.func (nat_lit 17)) ⟨[]⟩ ⟨[]⟩)
def q32 : OpdF := kC (.int .i64 (.ofNat (nat_lit 2000)))
def q33 : OpdF := kC (.func (.func (nat_lit 18)) ⟨[]⟩ ⟨[]⟩)
def q34 : OpdF := kC (.func (.func (nat_lit 19)) ⟨[]⟩ ⟨[]⟩)
def q35 : OpdF := kC (.func (.func (nat_lit 20)) ⟨[]⟩ ⟨[]⟩)
def q36 : OpdF := kC (.func (.func (nat_lit 21)) ⟨[]⟩ ⟨[]⟩)
def q37 : List Value := [(.int .i64 (.ofNat (nat_lit 0))), (.slice none (nat_lit 0) (nat_lit 0)), (.slice none (nat_lit 0) (nat_lit 0))]
def q38 : OpdF := kC (.func (.func (nat_lit 23)) ⟨[]⟩ ⟨[]⟩)
noncomputable def k6 : KFun := ⟨[rCellN (nat_lit 4) g4 (nat_lit 32), rTmp (nat_lit 5) g5], (kSeq (oSet (xTurn (tnAlloc q8)) p4 
(oSet (xMove q15) p5 
oEnd)) (kSeq (kSeq (oSet (xMove g0) p9 
(oSet (xCall q31 [g9]) p10 
oEnd)) (kCond g10 (kSeq (oSet (xLook (lkBuild q8 [])) p11 
(oDo (xTurn (tnStore (nat_lit 32) g4 g11)) 
(oSet (xMove q26) p5 
oEnd))) kRet) kSkip)) (kSeq (kSeq (oSet (xMove g1) p12 
(oSet (xLook (lkLen .sl g12)) p13 
(oSet (xLook (lkBin .gtr g13 q32)) p14 
(oSet (xMove g14) p15 
(oSetIf (wantF g15) (xMove g1) p16 
(oSetIf (wantF g15) (xCall q33 [g16, q34]) p17 
(oSet (xLook (lkPick g15 q13 g17)) p18 
oEnd))))))) (kCond g18 (kSeq (oSet (xLook (lkBuild q8 [])) p19 
(oDo (xTurn (tnStore (nat_lit 32) g4 g19)) 
(oSet (xMove q2) p5 
oEnd))) kRet) kSkip)) (kSeq (oSet (xTurn (tnBuildSlice [] [] (nat_lit 0))) p20 
(oSet (xMove g20) p6 
oEnd)) (kSeq (kSeq (oSet (xMove g1) p21 
(oSet (xCall q35 [g21, q15, q36]) p22 
(oSet (xLook (lkLen .sl g22)) p23 
(oSet (xMove q15) p24 
oEnd)))) (kBlock (nat_lit 0) (kLoop (kSeq (oSet (xLook (lkBin .lss g24 g23)) p25 
oEnd) (kSeq (kCond g25 kSkip (kExit (nat_lit 0))) (kSeq (kBlock (nat_lit 1) (kSeq (oSet (xLook (lkIxSl (nat_lit 1) g22 g24)) p26 
(oSet (xLook (lkLoad1 g26)) p27 
(oSet (xMove g27) p8 
oEnd))) (oSet (xMove g6) p28 
(oSet (xMove g8) p29 
(oSet (xLook (lkBuild q37 [((nat_lit 1), (nat_lit 1), g29)])) p30 
(oSet (xTurn (tnBuildSlice q37 [((nat_lit 0), (nat_lit 3), g30)] (nat_lit 1))) p31 
(oSet (xTurn (tnAppend (nat_lit 3) g28 g31)) p32 
(oSet (xMove g32) p6 
oEnd)))))))) (oSet (xLook (lkBin .add g24 q26)) p33 
(oSet (xMove g33) p24 
oEnd)))))))) (kSeq (kSeq (oSet (xMove g6) p34 
(oSet (xLook (lkLen .sl g34)) p35 
(oSet (xLook (lkEq false .int g35 q15)) p36 
oEnd))) (kCond g36 (oSet (xMove g6) p37 
(oSet (xLook (lkBuild q37 [])) p38 
(oSet (xTurn (tnBuildSlice q37 [((nat_lit 0), (nat_lit 3), g38)] (nat_lit 1))) p39 
(oSet (xTurn (tnAppend (nat_lit 3) g37 g39)) p40 
(oSet (xMove g40) p6 
oEnd))))) kSkip)) (kSeq (oSet (xMove g0) p41 
(oSet (xMove g6) p42 
(oSet (xCall q38 [g41, g42]) p43 
(oSet (xLook (lkExtract (nat_lit 0) g43)) p44 
(oSet (xLook (lkExtract (nat_lit 1) g43)) p45 
(oDo (xTurn (tnStore (nat_lit 32) g4 g44)) 
(oSet (xMove g45) p5 
oEnd))))))) kRet)))))))⟩
def q39 : OpdF := kC (.func (.func (nat_lit 24)) ⟨[]⟩ ⟨[]⟩)
def q40 : OpdF := kC (.func (.func (nat_lit 27)) ⟨[]⟩ ⟨[]⟩)
def q41 : OpdF := kC (.func (.func (nat_lit 26)) ⟨[]⟩ ⟨[]⟩)
def q42 : OpdF := kC (.func (.func (nat_lit 25)) ⟨[]⟩ ⟨[]⟩)
def q43 : OpdF := kC (.func (.func (nat_lit 28)) ⟨[]⟩ ⟨[]⟩)
noncomputable def k7 : KFun := ⟨[rTmp (nat_lit 2) g2], (kSeq (oSet (xMove q19) p2 
oEnd) (kSeq (kSeq (oSet (xMove g0) p3 
(oSet (xCall q39 [g3]) p4 
(oSet (xLook (lkEq true .int g4 q15)) p5 
oEnd))) (kCond g5 (kSeq (oSet (xMove q19) p2 
oEnd) kRet) kSkip)) (kSeq (oSet (xMove g0) p6 
(oSet (xCall q40 [g6]) p7 
(oSet (xCall q41 [g7]) p8 
(oSet (xCall q42 [g8, q43]) p9 
(oSet (xMove g9) p2 
oEnd))))) kRet)))⟩
def q44 : OpdF := kC (.int .i64 (.ofNat (nat_lit 5)))
def q45 : OpdF := kC (.func (.func (nat_lit 29)) ⟨[]⟩ ⟨[]⟩)
def q46 : List Value := [(.slice none (nat_lit 0) (nat_lit 0)), (.slice none (nat_lit 0) (nat_lit 0)), (.slice none (nat_lit 0) (nat_lit 0))]
noncomputable def k8 : KFun := ⟨[rCellN (nat_lit 10) g10 (nat_lit 32), rTmp (nat_lit 11) g11], (kSeq (oSet (xTurn (tnBox g1)) p6 
(oSet (xTurn (tnAlloc q8)) p10 
(oSet (xMove q15) p11 
oEnd))) (kSeq (oSet (xMove g0) p15 
(oSet (xLook (lkLoadN (nat_lit 32) g6)) p16 
(oSet (xCall q23 [g15, g16]) p17 
(oSet (xMove g17) p14 
(oSet (xLook (lkExtract (nat_lit 0) g14)) p18 
(oSet (xLook (lkExtract (nat_lit 1) g14)) p19 
(oSet (xMove g18) p12 
(oSet (xMove g19) p13 
oEnd)))))))) (kSeq (kSeq (oSet (xMove g13) p20 
(oSet (xLook (lkEq true .int g20 q15)) p21 
oEnd)) (kCond g21 (kSeq (oSet (xLook (lkBuild q8 [])) p22 
(oSet (xMove g13) p23 
(oDo (xTurn (tnStore (nat_lit 32) g10 g22)) 
(oSet (xMove g23) p11 
oEnd)))) kRet) kSkip)) (kSeq (kSeq (oSet (xMove g2) p24 
(oSet (xLook (lkBin .lss g24 q15)) p25 
(oSet (xMove g25) p26 
(oSetIf (wantF g26) (xMove g3) p27 
(oSetIf (wantF g26) (xLook (lkBin .lss g27 q15)) p28 
(oSet (xLook (lkPick g26 q13 g28)) p29 
(oSet (xMove g29) p30 
(oSetIf (wantF g30) (xMove g3) p31 
(oSetIf (wantF g30) (xMove g12) p32 
(oSetIf (wantF g30) (xLook (lkLen .sl g32)) p33 
(oSetIf (wantF g30) (xLook (lkBin .gtr g31 g33)) p34 
(oSet (xLook (lkPick g30 q13 g34)) p35 
(oSet (xMove g35) p36 
(oSetIf (wantF g36) (xMove g2) p37 
(oSetIf (wantF g36) (xMove g12) p38 
(oSetIf (wantF g36) (xLook (lkLen .sl g38)) p39 
(oSetIf (wantF g36) (xMove g3) p40 
(oSetIf (wantF g36) (xLook (lkBin .sub g39 g40)) p41 
(oSetIf (wantF g36) (xLook (lkBin .gtr g37 g41)) p42 
(oSet (xLook (lkPick g36 q13 g42)) p43 
oEnd)))))))))))))))))))) (kCond g43 (kSeq (oSet (xLook (lkBuild q8 [])) p44 
(oDo (xTurn (tnStore (nat_lit 32) g10 g44)) 
(oSet (xMove q44) p11 
oEnd))) kRet) kSkip)) (kSeq (kDraw 
(dLook (nat_lit 0) [] [] (lkMove g0) p45 
(dLook (nat_lit 1) [] [] (lkMove g12) p46 
(dLook (nat_lit 2) [] [] (lkMove g2) p47 
(dLook (nat_lit 3) [] [] (lkSliceSl (nat_lit 1) g46 none (some g47) none) p48 
(dLook (nat_lit 4) [] [] (lkMove g4) p49 
(dLook (nat_lit 5) [] [] (lkMove g12) p50 
(dLook (nat_lit 6) [] [] (lkMove g2) p51 
(dLook (nat_lit 7) [] [] (lkMove g3) p52 
(dLook (nat_lit 8) [] [] (lkBin .add g51 g52) p53 
(dLook (nat_lit 9) [] [] (lkSliceSl (nat_lit 1) g50 (some g53) none none) p54 
(dTurn (nat_lit 10) [] [] false (xTurn (tnBuildSlice q46 [((nat_lit 0), (nat_lit 1), g48), ((nat_lit 1), (nat_lit 1), g49), ((nat_lit 2), (nat_lit 1), g54)] (nat_lit 3))) p55 
(dTurn (nat_lit 11) [] [] true (xCall q45 [g55]) p56 
(dTurn (nat_lit 12) [] [(nat_lit 11)] true (xCall q7 [g45, g56]) p57 
(dLook (nat_lit 13) [] [(nat_lit 11), (nat_lit 12)] (lkExtract (nat_lit 0) g57) p58 
(dLook (nat_lit 14) [] [(nat_lit 11), (nat_lit 12)] (lkExtract (nat_lit 1) g57) p59 
(dTurn (nat_lit 15) [] [(nat_lit 11), (nat_lit 12)] true (xTurn (tnStore (nat_lit 32) g10 g58)) noDst 
(dLook (nat_lit 16) [] [(nat_lit 11), (nat_lit 12), (nat_lit 15)] (lkMove g59) p11 (dEnd [(nat_lit 45), (nat_lit 46), (nat_lit 47), (nat_lit 48), (nat_lit 49), (nat_lit 50), (nat_lit 51), (nat_lit 52), (nat_lit 53), (nat_lit 54), (nat_lit 55), (nat_lit 56), (nat_lit 57), (nat_lit 58), (nat_lit 59), (nat_lit 11)]))))))))))))))))))) kRet)))))⟩
noncomputable def k9 : KFun := ⟨[rTmp (nat_lit 4) g4, rTmp (nat_lit 5) g5], (kSeq (oSet (xTurn (tnBox g1)) p3 
(oSet (xMove q15) p4 
(oSet (xMove q15) p5 
oEnd))) (kSeq (oSet (xMove g0) p9 
(oSet (xLook (lkLoadN (nat_lit 32) g3)) p10 
(oSet (xCall q23 [g9, g10]) p11 
(oSet (xMove g11) p8 
(oSet (xLook (lkExtract (nat_lit 0) g8)) p12 
(oSet (xLook (lkExtract (nat_lit 1) g8)) p13 
(oSet (xMove g12) p6 
(oSet (xMove g13) p7 
oEnd)))))))) (kSeq (oSet (xMove g6) p14 
(oSet (xLook (lkLen .sl g14)) p15 
(oSet (xMove g7) p16 
(oSet (xMove g15) p4 
(oSet (xMove g16) p5 
oEnd))))) kRet)))⟩
def q47 : OpdF := kC (.string ⟨⟨[]⟩⟩)
noncomputable def k10 : KFun := ⟨[rTmp (nat_lit 6) g6, rTmp (nat_lit 7) g7], (kSeq (oSet (xTurn (tnBox g1)) p4 
(oSet (xMove q47) p6 
(oSet (xMove q15) p7 
oEnd))) (kSeq (oSet (xMove g0) p11 
(oSet (xLook (lkLoadN (nat_lit 32) g4)) p12 
(oSet (xCall q23 [g11, g12]) p13 
(oSet (xMove g13) p10 
(oSet (xLook (lkExtract (nat_lit 0) g10)) p14 
(oSet (xLook (lkExtract (nat_lit 1) g10)) p15 
(oSet (xMove g14) p8 
(oSet (xMove g15) p9 
oEnd)))))))) (kSeq (kBlock (nat_lit 0) (kSeq (oSet (xMove g9) p17 
(oSet (xLook (lkEq true .int g17 q15)) p18 
(oSet (xMove g18) p16 
oEnd))) (kCond g16 (kSeq (oSet (xMove g9) p19 
(oSet (xMove q47) p6 
(oSet (xMove g19) p7 
oEnd))) kRet) (kSeq (oSet (xMove g2) p21 
(oSet (xLook (lkBin .lss g21 q15)) p22 
(oSet (xMove g22) p23 
(oSetIf (wantF g23) (xMove g2) p24 
(oSetIf (wantF g23) (xMove g8) p25 
(oSetIf (wantF g23) (xLook (lkLen .sl g25)) p26 
(oSetIf (wantF g23) (xLook (lkBin .geq g24 g26)) p27 
(oSet (xLook (lkPick g23 q13 g27)) p28 
(oSet (xMove g28) p20 
oEnd))))))))) (kCond g20 (kSeq (oSet (xMove q47) p6 
(oSet (xMove q44) p7 
oEnd)) kRet) kSkip))))) (kSeq (oSet (xMove g8) p29 
(oSet (xMove g2) p30 
(oSet (xLook (lkIxSl (nat_lit 1) g29 g30)) p31 
(oSet (xLook (lkLoad1 g31)) p32 
(oSet (xMove g32) p6 
(oSet (xMove q15) p7 
oEnd)))))) kRet))))⟩
def q48 : OpdF := kC (.func (.func (nat_lit 30)) ⟨[]⟩ ⟨[]⟩)
noncomputable def k11 : KFun := ⟨[rTmp (nat_lit 4) g4, rTmp (nat_lit 5) g5], (kSeq (oSet (xTurn (tnBox g1)) p3 
(oSet (xMove q19) p4 
(oSet (xMove q15) p5 
oEnd))) (kSeq (oSet (xMove g0) p9 
(oSet (xLook (lkLoadN (nat_lit 32) g3)) p10 
(oSet (xCall q48 [g9, g10]) p11 
(oSet (xMove g11) p8 
(oSet (xLook (lkExtract (nat_lit 0) g8)) p12 
(oSet (xLook (lkExtract (nat_lit 1) g8)) p13 
(oSet (xMove g12) p6 
(oSet (xMove g13) p7 
oEnd)))))))) (kSeq (kDraw 
(dLook (nat_lit 0) [] [] (lkMove g6) p14 
(dLook (nat_lit 1) [] [] (lkMove g7) p15 
(dTurn (nat_lit 2) [] [] false (xNil g15) p16 
(dLook (nat_lit 3) [] [] (lkFieldAddr (nat_lit 1) g16) p17 
(dLook (nat_lit 4) [] [] (lkLoad1 g17) p18 
(dLook (nat_lit 5) [] [] (lkMove g14) p4 
(dLook (nat_lit 6) [] [] (lkMove g18) p5 (dEnd [(nat_lit 14), (nat_lit 15), (nat_lit 16), (nat_lit 17), (nat_lit 18), (nat_lit 4), (nat_lit 5)]))))))))) kRet)))⟩
def q49 : OpdF := kC (.func (.func (nat_lit 31)) ⟨[]⟩ ⟨[]⟩)
def q50 : OpdF := kC (.func (.func (nat_lit 32)) ⟨[]⟩ ⟨[]⟩)
noncomputable def k12 : KFun := ⟨[rTmp (nat_lit 4) g4, rTmp (nat_lit 5) g5], (kSeq (oSet (xTurn (tnBox g1)) p3 
(oSet (xMove q19) p4 
(oSet (xMove q15) p5 
oEnd))) (kSeq (oSet (xMove g0) p11 
(oSet (xLook (lkLoadN (nat_lit 32) g3)) p12 
(oSet (xCall q48 [g11, g12]) p13 
(oSet (xMove g13) p10 
(oSet (xLook (lkExtract (nat_lit 0) g10)) p14 
(oSet (xLook (lkExtract (nat_lit 1) g10)) p15 
(oSet (xMove g14) p6 
(oSet (xMove g15) p7 
oEnd)))))))) (kSeq (kSeq (oSet (xMove g7) p16 
(oSet (xNil g16) p17 
(oSet (xLook (lkFieldAddr (nat_lit 1) g17)) p18 
(oSet (xLook (lkLoad1 g18)) p19 
(oSet (xLook (lkEq true .int g19 q15)) p20 
oEnd))))) (kCond g20 (kSeq (kDraw 
(dLook (nat_lit 0) [] [] (lkMove g7) p21 
(dTurn (nat_lit 1) [] [] false (xNil g21) p22 
(dLook (nat_lit 2) [] [] (lkFieldAddr (nat_lit 1) g22) p23 
(dLook (nat_lit 3) [] [] (lkLoad1 g23) p24 
(dLook (nat_lit 4) [] [] (lkMove q19) p4 
(dLook (nat_lit 5) [] [] (lkMove g24) p5 (dEnd [(nat_lit 21), (nat_lit 22), (nat_lit 23), (nat_lit 24), (nat_lit 4), (nat_lit 5)])))))))) kRet) kSkip)) (kSeq (oSet (xMove q19) p8 
oEnd) (kSeq (kSeq (oSet (xMove g7) p25 
(oSet (xNil g25) p26 
(oSet (xLook (lkFieldAddr (nat_lit 2) g26)) p27 
(oSet (xLook (lkLoad1 g27)) p28 
(oSet (xTurn (tnRangeMap g28)) p29 
oEnd))))) (kBlock (nat_lit 0) (kLoop (kSeq (oSet (xNextMap g29) p30 
(oSet (xLook (lkExtract (nat_lit 0) g30)) p31 
oEnd)) (kSeq (kCond g31 kSkip (kExit (nat_lit 0))) (kBlock (nat_lit 1) (kSeq (oSet (xLook (lkEntry g29)) p32 
(oSet (xLook (lkExtract (nat_lit 0) g32)) p33 
(oSet (xTurn (tnAlloc q8)) p9 
(oDo (xTurn (tnStore (nat_lit 32) g9 g33)) 
oEnd)))) (oSet (xMove g8) p34 
(oSet (xLook (lkLoadN (nat_lit 32) g9)) p35 
(oSet (xTurn (tnBuildSlice q8 [((nat_lit 0), (nat_lit 32), g35)] (nat_lit 1))) p36 
(oSet (xTurn (tnAppend (nat_lit 32) g34 g36)) p37 
(oSet (xMove g37) p8 
oEnd)))))))))))) (kSeq (oSet (xMove g8) p38 
(oSet (xCall q49 [g38, q50]) p39 
oEnd)) (kSeq (oSet (xMove g8) p40 
(oSet (xMove g40) p4 
(oSet (xMove q15) p5 
oEnd))) kRet)))))))⟩
noncomputable def k13d0 : KD := 
(dLook (nat_lit 20) [] [] (lkPick g40 g49 q0) p50 (dEnd [(nat_lit 30), (nat_lit 31), (nat_lit 32), (nat_lit 33), (nat_lit 34), (nat_lit 35), (nat_lit 36), (nat_lit 37), (nat_lit 38), (nat_lit 39), (nat_lit 40), (nat_lit 41), (nat_lit 42), (nat_lit 43), (nat_lit 44), (nat_lit 45), (nat_lit 46), (nat_lit 47), (nat_lit 48), (nat_lit 49), (nat_lit 50)]))
noncomputable def k13d1 : KD := 
(dIf [] (wantT g40) p49 (dLook (nat_lit 19) [] [] (lkEq false .str g44 g48) p49 k13d0) k13d0)
noncomputable def k13d2 : KD := 
(dIf [] (wantT g40) p48 (dLook (nat_lit 18) [] [] (lkLoad1 g47) p48 k13d1) k13d1)
noncomputable def k13d3 : KD := 
(dIf [] (wantT g40) p47 (dLook (nat_lit 17) [] [] (lkIxSl (nat_lit 1) g45 g46) p47 k13d2) k13d2)
noncomputable def k13d4 : KD := 
(dIf [] (wantT g40) p46 (dLook (nat_lit 16) [] [] (lkMove g11) p46 k13d3) k13d3)
noncomputable def k13d5 : KD := 
(dIf [] (wantT g40) p45 (dLook (nat_lit 15) [] [] (lkMove g10) p45 k13d4) k13d4)
noncomputable def k13d6 : KD := 
(dIf [] (wantT g40) p44 (dLook (nat_lit 14) [] [] (lkLoad1 g43) p44 k13d5) k13d5)
noncomputable def k13d7 : KD := 
(dIf [] (wantT g40) p43 (dLook (nat_lit 13) [] [] (lkIxSl (nat_lit 1) g41 g42) p43 k13d6) k13d6)
noncomputable def k13d8 : KD := 
(dIf [] (wantT g40) p42 (dLook (nat_lit 12) [] [] (lkMove g11) p42 k13d7) k13d7)
noncomputable def k13d9 : KD := 
(dLook (nat_lit 9) [] [] (lkPick g34 g38 q0) p39 
(dLook (nat_lit 10) [] [] (lkMove g39) p40 
(dIf [] (wantT g40) p41 (dLook (nat_lit 11) [] [] (lkMove g8) p41 k13d8) k13d8)))
noncomputable def k13d10 : KD := 
(dIf [] (wantT g34) p38 (dLook (nat_lit 8) [] [] (lkBin .lss g35 g37) p38 k13d9) k13d9)
noncomputable def k13d11 : KD := 
(dIf [] (wantT g34) p37 (dLook (nat_lit 7) [] [] (lkLen .sl g36) p37 k13d10) k13d10)
noncomputable def k13d12 : KD := 
(dIf [] (wantT g34) p36 (dLook (nat_lit 6) [] [] (lkMove g10) p36 k13d11) k13d11)
noncomputable def k13 : KFun := ⟨[rTmp (nat_lit 6) g6, rTmp (nat_lit 7) g7], (kSeq (oSet (xTurn (tnBox g1)) p4 
(oSet (xTurn (tnBox g2)) p5 
(oSet (xMove q15) p6 
(oSet (xMove q15) p7 
oEnd)))) (kSeq (oSet (xMove g0) p13 
(oSet (xLook (lkLoadN (nat_lit 32) g4)) p14 
(oSet (xCall q23 [g13, g14]) p15 
(oSet (xMove g15) p12 
(oSet (xLook (lkExtract (nat_lit 0) g12)) p16 
(oSet (xLook (lkExtract (nat_lit 1) g12)) p17 
(oSet (xMove g16) p8 
(oSet (xMove g17) p9 
oEnd)))))))) (kSeq (kSeq (oSet (xMove g9) p18 
(oSet (xLook (lkEq true .int g18 q15)) p19 
oEnd)) (kCond g19 (kSeq (oSet (xMove g9) p20 
(oSet (xMove q15) p6 
(oSet (xMove g20) p7 
oEnd))) kRet) kSkip)) (kSeq (oSet (xMove g0) p22 
(oSet (xLook (lkLoadN (nat_lit 32) g5)) p23 
(oSet (xCall q23 [g22, g23]) p24 
(oSet (xMove g24) p21 
(oSet (xLook (lkExtract (nat_lit 0) g21)) p25 
(oSet (xLook (lkExtract (nat_lit 1) g21)) p26 
(oSet (xMove g25) p10 
(oSet (xMove g26) p9 
oEnd)))))))) (kSeq (kSeq (oSet (xMove g9) p27 
(oSet (xLook (lkEq true .int g27 q15)) p28 
oEnd)) (kCond g28 (kSeq (oSet (xMove g9) p29 
(oSet (xMove q15) p6 
(oSet (xMove g29) p7 
oEnd))) kRet) kSkip)) (kSeq (oSet (xMove q15) p11 
oEnd) (kSeq (kBlock (nat_lit 0) (kLoop (kSeq (kSeq (kDraw 
(dLook (nat_lit 0) [] [] (lkMove g11) p30 
(dLook (nat_lit 1) [] [] (lkMove g8) p31 
(dLook (nat_lit 2) [] [] (lkLen .sl g31) p32 
(dLook (nat_lit 3) [] [] (lkBin .lss g30 g32) p33 
(dLook (nat_lit 4) [] [] (lkMove g33) p34 
(dIf [] (wantT g34) p35 (dLook (nat_lit 5) [] [] (lkMove g11) p35 k13d12) k13d12))))))) (kCond g50 kSkip (kExit (nat_lit 0)))) (kBlock (nat_lit 1) (oSet (xMove g11) p51 
(oSet (xLook (lkBin .add g51 q26)) p52 
(oSet (xMove g52) p11 
oEnd))))))) (kSeq (oSet (xMove g11) p53 
(oSet (xMove g53) p6 
(oSet (xMove q15) p7 
oEnd))) kRet))))))))⟩
def q51 : OpdF := kC (.string ⟨⟨[97, 98]⟩⟩)
def q52 : List Value := [(.int .u8 (.ofNat (nat_lit 0))), (.int .u8 (.ofNat (nat_lit 0)))]
def q53 : OpdF := kC (.int .u8 (.ofNat (nat_lit 0)))
def q54 : OpdF := kC (.func (.func (nat_lit 34)) ⟨[]⟩ ⟨[]⟩)
def q55 : List Value := [(.int .u8 (.ofNat (nat_lit 0))), (.int .u8 (.ofNat (nat_lit 0))), (.int .u8 (.ofNat (nat_lit 0))), (.int .u8 (.ofNat (nat_lit 0))), (.int .u8 (.ofNat (nat_lit 0)))]
def q56 : OpdF := kC (.int .u8 (.ofNat (nat_lit 1)))
def q57 : OpdF := kC (.int .u8 (.ofNat (nat_lit 2)))
def q58 : OpdF := kC (.int .u8 (.ofNat (nat_lit 97)))
def q59 : OpdF := kC (.int .u8 (.ofNat (nat_lit 98)))
noncomputable def k14 : KFun := ⟨[rTmp (nat_lit 0) g0], (kSeq (oSet (xMove q0) p0 
oEnd) (kSeq (oSet (xCall q3 []) p10 
(oSet (xMove g10) p9 
(oSet (xLook (lkExtract (nat_lit 0) g9)) p11 
(oSet (xLook (lkExtract (nat_lit 1) g9)) p12 
(oSet (xMove g11) p1 
(oSet (xMove g12) p2 
oEnd)))))) (kSeq (kSeq (oSet (xMove g2) p13 
(oSet (xLook (lkEq false .ptr g13 q4)) p14 
oEnd)) (kCond g14 (kSeq (oSet (xMove q0) p0 
oEnd) kRet) kSkip)) (kSeq (oSet (xMove g2) p16 
(oSet (xTurn (tnBuildSlice q6 [((nat_lit 0), (nat_lit 1), q51)] (nat_lit 1))) p17 
(oSet (xCall q7 [g16, g17]) p18 
(oSet (xMove g18) p15 
(oSet (xLook (lkExtract (nat_lit 0) g15)) p19 
(oSet (xLook (lkExtract (nat_lit 1) g15)) p20 
(oSet (xTurn (tnAlloc q8)) p3 
(oDo (xTurn (tnStore (nat_lit 32) g3 g19)) 
(oSet (xMove g20) p4 
oEnd))))))))) (kSeq (oSet (xMove g2) p22 
(oSet (xLook (lkLoadN (nat_lit 32) g3)) p23 
(oSet (xCall q22 [g22, g23, q15]) p24 
(oSet (xMove g24) p21 
(oSet (xLook (lkExtract (nat_lit 0) g21)) p25 
(oSet (xLook (lkExtract (nat_lit 1) g21)) p26 
(oSet (xMove g25) p5 
(oSet (xMove g26) p6 
oEnd)))))))) (kSeq (oSet (xMove g2) p28 
(oSet (xLook (lkLoadN (nat_lit 32) g3)) p29 
(oSet (xCall q22 [g28, g29, q26]) p30 
(oSet (xMove g30) p27 
(oSet (xLook (lkExtract (nat_lit 0) g27)) p31 
(oSet (xLook (lkExtract (nat_lit 1) g27)) p32 
(oSet (xMove g31) p7 
(oSet (xMove g32) p8 
oEnd)))))))) (kSeq (oSet (xMove g2) p33 
(oSet (xTurn (tnBuildSlice q52 [((nat_lit 0), (nat_lit 1), q53), ((nat_lit 1), (nat_lit 1), q53)] (nat_lit 2))) p34 
(oSet (xCall q54 [g33, q19, g34]) p35 
(oSet (xMove g35) p36 
(oSetIf (wantT g36) (xMove g2) p37 
(oSetIf (wantT g36) (xTurn (tnBuildSlice q6 [((nat_lit 0), (nat_lit 1), q51)] (nat_lit 1))) p38 
(oSetIf (wantT g36) (xTurn (tnBuildSlice q55 [((nat_lit 0), (nat_lit 1), q53), ((nat_lit 1), (nat_lit 1), q56), ((nat_lit 2), (nat_lit 1), q57), ((nat_lit 3), (nat_lit 1), q58), ((nat_lit 4), (nat_lit 1), q59)] (nat_lit 5))) p39 
(oSetIf (wantT g36) (xCall q54 [g37, g38, g39]) p40 
(oSet (xLook (lkPick g36 g40 q0)) p41 
(oSet (xMove g41) p42 
(oSetIf (wantT g42) (xMove g4) p43 
(oSetIf (wantT g42) (xLook (lkEq false .int g43 q15)) p44 
(oSet (xLook (lkPick g42 g44 q0)) p45 
(oSet (xMove g45) p46 
(oSetIf (wantT g46) (xMove g5) p47 
(oSetIf (wantT g46) (xLook (lkEq false .str g47 q51)) p48 
(oSet (xLook (lkPick g46 g48 q0)) p49 
(oSet (xMove g49) p50 
(oSetIf (wantT g50) (xMove g6) p51 
(oSetIf (wantT g50) (xLook (lkEq false .int g51 q15)) p52 
(oSet (xLook (lkPick g50 g52 q0)) p53 
(oSet (xMove g53) p54 
(oSetIf (wantT g54) (xMove g8) p55 
(oSetIf (wantT g54) (xLook (lkEq false .int g55 q44)) p56 
(oSet (xLook (lkPick g54 g56 q0)) p57 
(oSet (xMove g57) p0 
oEnd)))))))))))))))))))))))))) kRet)))))))⟩
def q60 : OpdF := kC (.int .i64 (.ofNat (nat_lit 65536)))
def q61 : List Value := [(.int .i64 (.ofNat (nat_lit 0))), (.int .i64 (.ofNat (nat_lit 0))), (.bool false)]
def q62 : OpdF := kC (.int .i64 (.negSucc (nat_lit 0)))
def q63 : List Value := [(.int .i64 (.ofNat (nat_lit 0))), (.int .i64 (.ofNat (nat_lit 0))), (.bool false), (.bool false), (.int .i64 (.ofNat (nat_lit 0))), (.map none), (.slice none (nat_lit 0) (nat_lit 0))]
noncomputable def k15 : KFun := ⟨[rTmp (nat_lit 2) g2, rTmp (nat_lit 3) g3], (kSeq (oSet (xMove q4) p2 
(oSet (xMove q15) p3 
oEnd)) (kSeq (kSeq (oSet (xMove g0) p4 
(oSet (xLook (lkBin .lss g4 q15)) p5 
(oSet (xMove g5) p6 
(oSetIf (wantF g6) (xMove g0) p7 
(oSetIf (wantF g6) (xLook (lkBin .gtr g7 q60)) p8 
(oSet (xLook (lkPick g6 q13 g8)) p9 
oEnd)))))) (kCond g9 (kSeq (oSet (xMove q4) p2 
(oSet (xMove q44) p3 
oEnd)) kRet) kSkip)) (kSeq (oSet (xLook (lkBuild q61 [((nat_lit 1), (nat_lit 1), q62)])) p10 
(oSet (xMove g0) p11 
(oSet (xTurn (tnMkMap (.one (.int .i64)))) p12 
(oSet (xLook (lkBuild q63 [((nat_lit 0), (nat_lit 3), g10), ((nat_lit 3), (nat_lit 1), q13), ((nat_lit 4), (nat_lit 1), g11), ((nat_lit 5), (nat_lit 1), g12)])) p13 
(oSet (xTurn (tnBox g13)) p14 
(oSet (xMove g14) p2 
(oSet (xMove q15) p3 
oEnd))))))) kRet)))⟩
def q64 : OpdF := kC (.func (.func (nat_lit 35)) ⟨[]⟩ ⟨[]⟩)
def q65 : OpdF := kC (.func (.func (nat_lit 36)) ⟨[]⟩ ⟨[]⟩)
def q66 : OpdF := kC (.int .i64 (.ofNat (nat_lit 4)))
def q67 : OpdF := kC (.int .i64 (.ofNat (nat_lit 8)))
def q68 : OpdF := kC (.func (.func (nat_lit 37)) ⟨[]⟩ ⟨[]⟩)
def q69 : OpdF := kC (.func (.func (nat_lit 38)) ⟨[]⟩ ⟨[]⟩)
def q70 : List Value := [(.int .i64 (.ofNat (nat_lit 0))), (.int .u8 (.ofNat (nat_lit 0))), (.int .u8 (.ofNat (nat_lit 0))), (.int .u8 (.ofNat (nat_lit 0))), (.int .u8 (.ofNat (nat_lit 0))), (.int .u8 (.ofNat (nat_lit 0))), (.int .u8 (.ofNat (nat_lit 0))), (.int .u8 (.ofNat (nat_lit 0))), (.int .u8 (.ofNat (nat_lit 0))), (.int .u8 (.ofNat (nat_lit 0))), (.int .u8 (.ofNat (nat_lit 0))), (.int .u8 (.ofNat (nat_lit 0))), (.int .u8 (.ofNat (nat_lit 0))), (.int .u8 (.ofNat (nat_lit 0))), (.int .u8 (.ofNat (nat_lit 0))), (.int .u8 (.ofNat (nat_lit 0))), (.int .u8 (.ofNat (nat_lit 0))), (.int .u8 (.ofNat (nat_lit 0))), (.int .u8 (.ofNat (nat_lit 0))), (.int .u8 (.ofNat (nat_lit 0))), (.int .u8 (.ofNat (nat_lit 0))), (.int .u8 (.ofNat (nat_lit 0))), (.int .u8 (.ofNat (nat_lit 0))), (.int .u8 (.ofNat (nat_lit 0))), (.int .u8 (.ofNat (nat_lit 0))), (.int .u8 (.ofNat (nat_lit 0))), (.int .u8 (.ofNat (nat_lit 0))), (.int .u8 (.ofNat (nat_lit 0))), (.int .u8 (.ofNat (nat_lit 0))), (.int .u8 (.ofNat (nat_lit 0))), (.int .u8 (.ofNat (nat_lit 0))), (.int .u8 (.ofNat (nat_lit 0))), (.int .u8 (.ofNat (nat_lit 0))), (.int .i64 (.ofNat (nat_lit 0))), (.int .i64 (.ofNat (nat_lit 0)))]
def q71 : OpdF := kC (.int .i64 (.ofNat (nat_lit 6)))
def q72 : List Value := [(.int .i64 (.ofNat (nat_lit 0))), (.int .i64 (.ofNat (nat_lit 0)))]
def q73 : OpdF := kC (.func (.func (nat_lit 39)) ⟨[]⟩ ⟨[]⟩)
def q74 : OpdF := kC (.int .i64 (.ofNat (nat_lit 11)))
def q75 : OpdF := kC (.func (.func (nat_lit 40)) ⟨[]⟩ ⟨[]⟩)
def q76 : OpdF := kC (.func (.func (nat_lit 41)) ⟨[]⟩ ⟨[]⟩)
def q77 : OpdF := kC (.func (.func (nat_lit 42)) ⟨[]⟩ ⟨[]⟩)
def q78 : OpdF := kC (.func (.func (nat_lit 43)) ⟨[]⟩ ⟨[]⟩)
noncomputable def k16 : KFun := ⟨[rTmp (nat_lit 2) g2, rTmp (nat_lit 3) g3], (kSeq (oSet (xMove q4) p2 
(oSet (xMove q15) p3 
oEnd)) (kSeq (kSeq (oSet (xMove g0) p16 
(oSet (xCall q64 [g16, q15]) p17 
(oSet (xMove g17) p15 
(oSet (xLook (lkExtract (nat_lit 0) g15)) p18 
(oSet (xLook (lkExtract (nat_lit 1) g15)) p19 
(oSet (xMove g18) p4 
(oSet (xMove g19) p5 
oEnd))))))) (kSeq (oSet (xMove g5) p20 
(oSet (xLook (lkEq false .int g20 q26)) p21 
oEnd)) (kCond g21 (kSeq (oSet (xMove g5) p22 
(oSet (xMove q4) p2 
(oSet (xMove g22) p3 
oEnd))) kRet) kSkip))) (kSeq (kSeq (oSet (xMove g0) p23 
(oSet (xCall q65 [g23]) p24 
(oSet (xLook (lkBin .lss g24 q66)) p25 
oEnd))) (kCond g25 (kSeq (oSet (xMove q4) p2 
(oSet (xMove q67) p3 
oEnd)) kRet) kSkip)) (kSeq (oSet (xCall q68 []) p26 
(oSet (xMove g0) p27 
(oSet (xTurn (tnMkMap (.many (nat_lit 32) .u8))) p28 
(oSet (xLook (lkBuild q16 [((nat_lit 0), (nat_lit 2), g26), ((nat_lit 2), (nat_lit 1), g27), ((nat_lit 38), (nat_lit 1), g28)])) p29 
(oSet (xTurn (tnBox g29)) p30 
(oSet (xMove g30) p6 
oEnd)))))) (kSeq (oSet (xMove g0) p32 
(oSet (xCall q69 [g32]) p33 
(oSet (xMove g33) p31 
(oSet (xLook (lkExtract (nat_lit 0) g31)) p34 
(oSet (xLook (lkExtract (nat_lit 1) g31)) p35 
(oSet (xLook (lkExtract (nat_lit 2) g31)) p36 
(oSet (xTurn (tnAlloc q70)) p7 
(oDo (xTurn (tnStore (nat_lit 35) g7 g34)) 
(oSet (xMove g35) p8 
(oSet (xMove g36) p9 
oEnd)))))))))) (kSeq (kSeq (oSet (xMove g9) p37 
oEnd) (kBlock (nat_lit 0) (kSeq (oSet (xLook (lkEq false .int g37 q15)) p40 
(oSet (xMove g40) p39 
oEnd)) (kCond g39 kSkip (kSeq (oSet (xLook (lkEq false .int g37 q71)) p42 
(oSet (xMove g42) p41 
oEnd)) (kCond g41 (kSeq (oSet (xMove g6) p43 
(oSet (xMove g43) p2 
(oSet (xMove q15) p3 
oEnd))) kRet) (kSeq (oSet (xMove g9) p38 
(oSet (xMove q4) p2 
(oSet (xMove g38) p3 
oEnd))) kRet))))))) (kSeq (kDraw 
(dLook (nat_lit 0) [] [] (lkMove g6) p44 
(dLook (nat_lit 1) [] [] (lkMove g6) p45 
(dLook (nat_lit 2) [] [] (lkMove g6) p46 
(dLook (nat_lit 3) [] [] (lkFieldAddr (nat_lit 0) g7) p47 
(dLook (nat_lit 4) [] [] (lkLoad1 g47) p48 
(dLook (nat_lit 5) [] [] (lkFieldAddr (nat_lit 1) g7) p49 
(dLook (nat_lit 6) [] [] (lkLoadN (nat_lit 32) g49) p50 
(dLook (nat_lit 7) [] [] (lkFieldAddr (nat_lit 33) g7) p51 
(dLook (nat_lit 8) [] [] (lkLoad1 g51) p52 
(dLook (nat_lit 9) [] [] (lkFieldAddr (nat_lit 34) g7) p53 
(dLook (nat_lit 10) [] [] (lkLoad1 g53) p54 
(dLook (nat_lit 11) [] [] (lkBuild q72 [((nat_lit 0), (nat_lit 1), g52), ((nat_lit 1), (nat_lit 1), g54)]) p55 
(dTurn (nat_lit 12) [] [] false (xNil g44) p56 
(dLook (nat_lit 13) [] [] (lkFieldAddr (nat_lit 3) g56) p57 
(dTurn (nat_lit 14) [(nat_lit 6), (nat_lit 8), (nat_lit 10)] [] true (xTurn (tnStore (nat_lit 1) g57 g48)) noDst 
(dTurn (nat_lit 15) [] [(nat_lit 14)] false (xNil g45) p58 
(dLook (nat_lit 16) [] [(nat_lit 14)] (lkFieldAddr (nat_lit 4) g58) p59 
(dTurn (nat_lit 17) [(nat_lit 8), (nat_lit 10)] [(nat_lit 14)] true (xTurn (tnStore (nat_lit 32) g59 g50)) noDst 
(dTurn (nat_lit 18) [] [(nat_lit 14), (nat_lit 17)] false (xNil g46) p60 
(dLook (nat_lit 19) [] [(nat_lit 14), (nat_lit 17)] (lkFieldAddr (nat_lit 36) g60) p61 
(dTurn (nat_lit 20) [] [(nat_lit 14), (nat_lit 17)] true (xTurn (tnStore (nat_lit 2) g61 g55)) noDst (dEnd [(nat_lit 44), (nat_lit 45), (nat_lit 46), (nat_lit 47), (nat_lit 48), (nat_lit 49), (nat_lit 50), (nat_lit 51), (nat_lit 52), (nat_lit 53), (nat_lit 54), (nat_lit 55), (nat_lit 56), (nat_lit 57), (nat_lit 58), (nat_lit 59), (nat_lit 60), (nat_lit 61)]))))))))))))))))))))))) (kSeq (kSeq (oSet (xMove g0) p62 
(oSet (xMove g6) p63 
(oSet (xNil g63) p64 
(oSet (xLook (lkFieldAddr (nat_lit 36) g64)) p65 
(oSet (xLook (lkLoadN (nat_lit 2) g65)) p66 
(oSet (xCall q73 [g62, g66]) p67 
(oSet (xLook (lkUn .not g67)) p68 
oEnd))))))) (kCond g68 (kSeq (oSet (xMove q4) p2 
(oSet (xMove q74) p3 
oEnd)) kRet) kSkip)) (kSeq (kDraw 
(dLook (nat_lit 0) [] [] (lkMove g0) p70 
(dLook (nat_lit 1) [] [] (lkFieldAddr (nat_lit 33) g7) p71 
(dLook (nat_lit 2) [] [] (lkLoad1 g71) p72 
(dLook (nat_lit 3) [] [] (lkMove g6) p73 
(dTurn (nat_lit 4) [] [] false (xNil g73) p74 
(dLook (nat_lit 5) [] [] (lkFieldAddr (nat_lit 36) g74) p75 
(dLook (nat_lit 6) [] [] (lkLoadN (nat_lit 2) g75) p76 
(dTurn (nat_lit 7) [(nat_lit 2)] [] true (xCall q76 [g76]) p77 
(dTurn (nat_lit 8) [] [(nat_lit 7)] true (xCall q75 [g70, g72, g77]) p78 
(dLook (nat_lit 9) [] [(nat_lit 7), (nat_lit 8)] (lkMove g78) p69 
(dLook (nat_lit 10) [] [(nat_lit 7), (nat_lit 8)] (lkExtract (nat_lit 0) g69) p79 
(dLook (nat_lit 11) [] [(nat_lit 7), (nat_lit 8)] (lkExtract (nat_lit 1) g69) p80 
(dLook (nat_lit 12) [] [(nat_lit 7), (nat_lit 8)] (lkMove g79) p10 
(dLook (nat_lit 13) [] [(nat_lit 7), (nat_lit 8)] (lkMove g80) p9 (dEnd [(nat_lit 70), (nat_lit 71), (nat_lit 72), (nat_lit 73), (nat_lit 74), (nat_lit 75), (nat_lit 76), (nat_lit 77), (nat_lit 78), (nat_lit 69), (nat_lit 79), (nat_lit 80), (nat_lit 10), (nat_lit 9)])))))))))))))))) (kSeq (kSeq (oSet (xMove g9) p81 
(oSet (xLook (lkEq true .int g81 q15)) p82 
oEnd)) (kCond g82 (kSeq (oSet (xMove g9) p83 
(oSet (xMove q4) p2 
(oSet (xMove g83) p3 
oEnd))) kRet) kSkip)) (kSeq (oSet (xMove g10) p85 
(oSet (xCall q77 [g85]) p86 
(oSet (xMove g86) p84 
(oSet (xLook (lkExtract (nat_lit 0) g84)) p87 
(oSet (xLook (lkExtract (nat_lit 1) g84)) p88 
(oSet (xLook (lkExtract (nat_lit 2) g84)) p89 
(oSet (xMove g87) p11 
(oSet (xMove g88) p12 
(oSet (xMove g89) p9 
oEnd))))))))) (kSeq (kSeq (oSet (xMove g9) p90 
(oSet (xLook (lkEq true .int g90 q15)) p91 
(oSet (xMove g91) p92 
(oSetIf (wantF g92) (xMove g11) p93 
(oSetIf (wantF g92) (xLook (lkEq true .int g93 q18)) p94 
(oSet (xLook (lkPick g92 q13 g94)) p95 
(oSet (xMove g95) p96 
(oSetIf (wantF g96) (xMove g12) p97 
(oSetIf (wantF g96) (xLook (lkLen .sl g97)) p98 
(oSetIf (wantF g96) (xLook (lkFieldAddr (nat_lit 34) g7)) p99 
(oSetIf (wantF g96) (xLook (lkLoad1 g99)) p100 
(oSetIf (wantF g96) (xLook (lkEq true .int g98 g100)) p101 
(oSet (xLook (lkPick g96 q13 g101)) p102 
oEnd))))))))))))) (kCond g102 (kSeq (oSet (xMove q4) p2 
(oSet (xMove q74) p3 
oEnd)) kRet) kSkip)) (kSeq (oSet (xMove g0) p104 
(oSet (xMove g12) p105 
(oSet (xMove g6) p106 
(oSet (xNil g106) p107 
(oSet (xLook (lkFieldAddr (nat_lit 36) g107)) p108 
(oSet (xLook (lkLoadN (nat_lit 2) g108)) p109 
(oSet (xCall q78 [g104, g105, g109]) p110 
(oSet (xMove g110) p103 
(oSet (xLook (lkExtract (nat_lit 0) g103)) p111 
(oSet (xLook (lkExtract (nat_lit 1) g103)) p112 
(oSet (xMove g111) p13 
(oSet (xMove g112) p14 
oEnd)))))))))))) (kSeq (kSeq (oSet (xMove g14) p113 
(oSet (xLook (lkUn .not g113)) p114 
oEnd)) (kCond g114 (kSeq (oSet (xMove q4) p2 
(oSet (xMove q74) p3 
oEnd)) kRet) kSkip)) (kSeq (oSet (xMove g6) p115 
(oSet (xMove g13) p116 
(oSet (xNil g115) p117 
(oSet (xLook (lkFieldAddr (nat_lit 38) g117)) p118 
(oDo (xTurn (tnStore (nat_lit 1) g118 g116)) 
oEnd))))) (kSeq (oSet (xMove g6) p119 
(oSet (xMove g119) p2 
(oSet (xMove q15) p3 
oEnd))) kRet))))))))))))))))⟩
def q79 : OpdF := kC (.func (.func (nat_lit 44)) ⟨[]⟩ ⟨[]⟩)
noncomputable def k17 : KFun := ⟨[rTmp (nat_lit 2) g2], (kSeq (oSet (xMove q0) p2 
oEnd) (kSeq (oSet (xMove g0) p6 
(oSet (xLook (lkBuild q8 [])) p7 
(oSet (xCall q79 [g6, g7]) p8 
(oSet (xMove g8) p5 
(oSet (xLook (lkExtract (nat_lit 0) g5)) p9 
(oSet (xLook (lkExtract (nat_lit 1) g5)) p10 
(oSet (xMove g9) p3 
(oSet (xMove g10) p4 
oEnd)))))))) (kSeq (oSet (xMove g4) p11 
(oSet (xLook (lkEq false .int g11 q26)) p12 
(oSet (xMove g12) p2 
oEnd))) kRet)))⟩
def q80 : OpdF := kC (.func (.func (nat_lit 45)) ⟨[]⟩ ⟨[]⟩)
noncomputable def k18 : KFun := ⟨[rTmp (nat_lit 4) g4], (kSeq (oSet (xMove q0) p4 
oEnd) (kSeq (oSet (xMove g0) p5 
(oSet (xMove g1) p6 
(oSet (xCall q80 [g5, g6]) p7 
(oSet (xLook (lkBin .geq g7 q15)) p8 
(oSet (xMove g8) p4 
oEnd))))) kRet))⟩
def q81 : OpdF := kC (.int .i64 (.ofNat (nat_lit 8000)))
noncomputable def k19 : KFun := ⟨[rTmp (nat_lit 2) g2], (kSeq (oSet (xMove q0) p2 
oEnd) (kSeq (oSet (xMove g0) p3 
(oSet (xLook (lkLen .str g3)) p4 
(oSet (xLook (lkBin .gtr g4 q81)) p5 
(oSet (xMove g5) p2 
oEnd)))) kRet))⟩
def q82 : OpdF := kC (.func (.func (nat_lit 46)) ⟨[]⟩ ⟨[]⟩)
def q83 : List Value := [(.slice none (nat_lit 0) (nat_lit 0))]
noncomputable def k20 : KFun := ⟨[rTmp (nat_lit 6) g6], (kSeq (oSet (xMove q19) p6 
oEnd) (kSeq (oSet (xMove q19) p7 
oEnd) (kSeq (oSet (xMove q15) p8 
oEnd) (kSeq (kSeq (oSet (xMove g0) p11 
(oSet (xLook (lkLen .sl g11)) p12 
(oSet (xMove q15) p13 
oEnd))) (kBlock (nat_lit 0) (kLoop (kSeq (oSet (xLook (lkBin .lss g13 g12)) p14 
oEnd) (kSeq (kCond g14 kSkip (kExit (nat_lit 0))) (kSeq (kBlock (nat_lit 1) (kSeq (oSet (xMove g13) p15 
(oSet (xLook (lkIxSl (nat_lit 1) g11 g13)) p16 
(oSet (xLook (lkLoad1 g16)) p17 
(oSet (xMove g15) p9 
(oSet (xMove g17) p10 
oEnd))))) (kSeq (oSet (xMove g1) p18 
(oSet (xMove g9) p19 
(oSet (xLook (lkBin .add g19 q26)) p20 
(oSet (xMove g8) p21 
(oSet (xLook (lkBin .sub g20 g21)) p22 
(oSet (xMove g2) p23 
(oSet (xMove g10) p24 
(oSet (xCall g23 [g24]) p25 
(oSet (xCall q82 [g18, g22, g25]) p26 
(oSet (xMove g26) p27 
(oSetIf (wantF g27) (xMove g9) p28 
(oSetIf (wantF g27) (xMove g0) p29 
(oSetIf (wantF g27) (xLook (lkLen .sl g29)) p30 
(oSetIf (wantF g27) (xLook (lkBin .sub g30 q26)) p31 
(oSetIf (wantF g27) (xLook (lkEq false .int g28 g31)) p32 
(oSet (xLook (lkPick g27 q13 g32)) p33 
oEnd)))))))))))))))) (kCond g33 (kSeq (oSet (xMove g7) p34 
(oSet (xMove g0) p35 
(oSet (xMove g8) p36 
(oSet (xMove g9) p37 
(oSet (xLook (lkBin .add g37 q26)) p38 
(oSet (xLook (lkSliceSl (nat_lit 1) g35 (some g36) (some g38) none)) p39 
(oSet (xTurn (tnBuildSlice q83 [((nat_lit 0), (nat_lit 1), g39)] (nat_lit 1))) p40 
(oSet (xTurn (tnAppend (nat_lit 1) g34 g40)) p41 
(oSet (xMove g41) p7 
oEnd))))))))) (oSet (xMove g9) p42 
(oSet (xLook (lkBin .add g42 q26)) p43 
(oSet (xMove g43) p8 
oEnd)))) kSkip)))) (oSet (xLook (lkBin .add g13 q26)) p44 
(oSet (xMove g44) p13 
oEnd)))))))) (kSeq (oSet (xMove g7) p45 
(oSet (xMove g45) p6 
oEnd)) kRet)))))⟩
def q84 : OpdF := kC (.func (.func (nat_lit 22)) ⟨[]⟩ ⟨[]⟩)
noncomputable def k21 : KFun := ⟨[rCellN (nat_lit 2) g2 (nat_lit 32)], (kSeq (oSet (xTurn (tnAlloc q8)) p2 
oEnd) (kSeq (oSet (xMove g0) p3 
(oSet (xTurn (tnToBytes g3)) p4 
(oSet (xCall q84 [g4]) p5 
(oDo (xTurn (tnStore (nat_lit 32) g2 g5)) 
oEnd)))) kRet))⟩
def q85 : OpdF := kC (.func (.func (nat_lit 47)) ⟨[]⟩ ⟨[]⟩)
def q86 : OpdF := kC (.func (.func (nat_lit 48)) ⟨[]⟩ ⟨[]⟩)
def q87 : OpdF := kC (.func (.func (nat_lit 49)) ⟨[]⟩ ⟨[]⟩)
noncomputable def k22 : KFun := ⟨[rCellN (nat_lit 2) g2 (nat_lit 32)], (kSeq (oSet (xTurn (tnAlloc q8)) p2 
oEnd) (kSeq (oSet (xCall q85 []) p4 
(oSet (xMove g4) p3 
oEnd)) (kSeq (oSet (xMove g3) p5 
(oSet (xMove g0) p6 
(oSet (xCall q86 [g5, g6]) p7 
oEnd))) (kSeq (oSet (xMove g3) p8 
(oSet (xCall q87 [g8]) p9 
(oDo (xTurn (tnStore (nat_lit 32) g2 g9)) 
oEnd))) kRet))))⟩
def q88 : OpdF := kC (.func (.func (nat_lit 50)) ⟨[]⟩ ⟨[]⟩)
def q89 : List Value := [(.int .u8 (.ofNat (nat_lit 0))), (.int .u8 (.ofNat (nat_lit 0))), (.int .u8 (.ofNat (nat_lit 0))), (.int .u8 (.ofNat (nat_lit 0))), (.int .u8 (.ofNat (nat_lit 0))), (.int .u8 (.ofNat (nat_lit 0))), (.int .u8 (.ofNat (nat_lit 0))), (.int .u8 (.ofNat (nat_lit 0))), (.int .u8 (.ofNat (nat_lit 0))), (.int .u8 (.ofNat (nat_lit 0))), (.int .u8 (.ofNat (nat_lit 0))), (.int .u8 (.ofNat (nat_lit 0))), (.int .u8 (.ofNat (nat_lit 0))), (.int .u8 (.ofNat (nat_lit 0))), (.int .u8 (.ofNat (nat_lit 0))), (.int .u8 (.ofNat (nat_lit 0))), (.int .u8 (.ofNat (nat_lit 0))), (.int .u8 (.ofNat (nat_lit 0))), (.int .u8 (.ofNat (nat_lit 0))), (.int .u8 (.ofNat (nat_lit 0))), (.int .u8 (.ofNat (nat_lit 0))), (.int .u8 (.ofNat (nat_lit 0))), (.int .u8 (.ofNat (nat_lit 0))), (.int .u8 (.ofNat (nat_lit 0))), (.int .u8 (.ofNat (nat_lit 0))), (.int .u8 (.ofNat (nat_lit 0))), (.int .u8 (.ofNat (nat_lit 0))), (.int .u8 (.ofNat (nat_lit 0))), (.int .u8 (.ofNat (nat_lit 0))), (.int .u8 (.ofNat (nat_lit 0))), (.int .u8 (.ofNat (nat_lit 0))), (.int .u8 (.ofNat (nat_lit 0))), (.int .i64 (.ofNat (nat_lit 0)))]
def q90 : OpdF := kC (.func (.func (nat_lit 51)) ⟨[]⟩ ⟨[]⟩)
def q91 : OpdF := kC (.func (.func (nat_lit 52)) ⟨[]⟩ ⟨[]⟩)
noncomputable def k23 : KFun := ⟨[rCellN (nat_lit 4) g4 (nat_lit 32), rTmp (nat_lit 5) g5], (kSeq (oSet (xTurn (tnAlloc q8)) p4 
(oSet (xMove q15) p5 
oEnd)) (kSeq (oSet (xMove q19) p6 
oEnd) (kSeq (kSeq (oSet (xMove g1) p15 
(oSet (xLook (lkLen .sl g15)) p16 
(oSet (xMove q15) p17 
oEnd))) (kBlock (nat_lit 0) (kLoop (kSeq (oSet (xLook (lkBin .lss g17 g16)) p18 
oEnd) (kSeq (kCond g18 kSkip (kExit (nat_lit 0))) (kSeq (kBlock (nat_lit 1) (kSeq (oSet (xLook (lkIxSl (nat_lit 3) g15 g17)) p19 
(oSet (xLook (lkLoadN (nat_lit 3) g19)) p20 
(oSet (xTurn (tnAlloc q37)) p8 
(oDo (xTurn (tnStore (nat_lit 3) g8 g20)) 
oEnd)))) (kSeq (oSet (xLook (lkLoadN (nat_lit 3) g8)) p22 
(oSet (xMove g0) p23 
(oSet (xCall q88 [g22, g23]) p24 
(oSet (xMove g24) p21 
(oSet (xLook (lkExtract (nat_lit 0) g21)) p25 
(oSet (xLook (lkExtract (nat_lit 1) g21)) p26 
(oSet (xTurn (tnAlloc q89)) p9 
(oDo (xTurn (tnStore (nat_lit 33) g9 g25)) 
(oSet (xMove g26) p10 
oEnd))))))))) (kSeq (kSeq (oSet (xMove g10) p27 
(oSet (xLook (lkEq true .int g27 q15)) p28 
oEnd)) (kCond g28 (kSeq (oSet (xLook (lkBuild q8 [])) p29 
(oSet (xMove g10) p30 
(oDo (xTurn (tnStore (nat_lit 32) g4 g29)) 
(oSet (xMove g30) p5 
oEnd)))) kRet) kSkip)) (oSet (xMove g6) p31 
(oSet (xLook (lkLoadN (nat_lit 33) g9)) p32 
(oSet (xTurn (tnBuildSlice q89 [((nat_lit 0), (nat_lit 33), g32)] (nat_lit 1))) p33 
(oSet (xTurn (tnAppend (nat_lit 33) g31 g33)) p34 
(oSet (xMove g34) p6 
oEnd))))))))) (oSet (xLook (lkBin .add g17 q26)) p35 
(oSet (xMove g35) p17 
oEnd)))))))) (kSeq (kSeq (oSet (xMove g6) p36 
(oSet (xLook (lkLen .sl g36)) p37 
(oSet (xLook (lkEq false .int g37 q26)) p38 
oEnd))) (kCond g38 (kSeq (oSet (xMove g6) p39 
(oSet (xLook (lkIxSl (nat_lit 33) g39 q15)) p40 
(oSet (xLook (lkFieldAddr (nat_lit 0) g40)) p41 
(oSet (xLook (lkLoadN (nat_lit 32) g41)) p42 
(oDo (xTurn (tnStore (nat_lit 32) g4 g42)) 
(oSet (xMove q15) p5 
oEnd)))))) kRet) kSkip)) (kSeq (oSet (xMove g1) p43 
(oSet (xLook (lkIxSl (nat_lit 3) g43 q15)) p44 
(oSet (xLook (lkFieldAddr (nat_lit 0) g44)) p45 
(oSet (xLook (lkLoad1 g45)) p46 
(oSet (xLook (lkBin .add g46 q26)) p47 
(oSet (xMove g47) p11 
oEnd)))))) (kSeq (oSet (xMove q19) p12 
oEnd) (kSeq (kSeq (oSet (xMove g6) p48 
(oSet (xMove g11) p49 
(oSet (xCall q90 [g48, g49, q91]) p50 
(oSet (xLook (lkLen .sl g50)) p51 
(oSet (xMove q15) p52 
oEnd))))) (kBlock (nat_lit 2) (kLoop (kSeq (oSet (xLook (lkBin .lss g52 g51)) p53 
oEnd) (kSeq (kCond g53 kSkip (kExit (nat_lit 2))) (kSeq (kBlock (nat_lit 3) (kSeq (oSet (xLook (lkIxSl (nat_lit 1) g50 g52)) p54 
(oSet (xLook (lkLoad1 g54)) p55 
(oSet (xMove g55) p14 
oEnd))) (oSet (xMove g12) p56 
(oSet (xMove g11) p57 
(oSet (xMove g14) p58 
(oSet (xLook (lkBuild q37 [((nat_lit 0), (nat_lit 1), g57), ((nat_lit 2), (nat_lit 1), g58)])) p59 
(oSet (xTurn (tnBuildSlice q37 [((nat_lit 0), (nat_lit 3), g59)] (nat_lit 1))) p60 
(oSet (xTurn (tnAppend (nat_lit 3) g56 g60)) p61 
(oSet (xMove g61) p12 
oEnd))))))))) (oSet (xLook (lkBin .add g52 q26)) p62 
(oSet (xMove g62) p52 
oEnd)))))))) (kSeq (oSet (xMove g0) p63 
(oSet (xMove g12) p64 
(oSet (xCall q38 [g63, g64]) p65 
(oSet (xLook (lkExtract (nat_lit 0) g65)) p66 
(oSet (xLook (lkExtract (nat_lit 1) g65)) p67 
(oDo (xTurn (tnStore (nat_lit 32) g4 g66)) 
(oSet (xMove g67) p5 
oEnd))))))) kRet))))))))⟩
def q92 : OpdF := kC (.func (.func (nat_lit 53)) ⟨[]⟩ ⟨[]⟩)
def q93 : OpdF := kC (.int .i64 (.ofNat (nat_lit 10)))
noncomputable def k24 : KFun := ⟨[rTmp (nat_lit 2) g2], (kSeq (oSet (xMove q15) p2 
oEnd) (kSeq (kBlock (nat_lit 0) (kSeq (oSet (xMove g0) p4 
(oSet (xCall q92 [g4]) p5 
(oSet (xMove g5) p3 
oEnd))) (kCond g3 (kSeq (oSet (xMove q26) p2 
oEnd) kRet) (kSeq (oSet (xMove g0) p7 
(oSet (xNil g7) p8 
(oSet (xLook (lkFieldAddr (nat_lit 39) g8)) p9 
(oSet (xLook (lkLoad1 g9)) p10 
(oSet (xMove g10) p6 
oEnd))))) (kCond g6 (kSeq (oSet (xMove q93) p2 
oEnd) kRet) kSkip))))) (kSeq (oSet (xMove q15) p2 
oEnd) kRet)))⟩
def q94 : OpdF := kC (.func (.func (nat_lit 54)) ⟨[]⟩ ⟨[]⟩)
noncomputable def k25 : KFun := ⟨[rTmp (nat_lit 4) g4], (kSeq (oSet (xMove q19) p4 
oEnd) (kSeq (oSet (xMove g0) p6 
(oSet (xCall q94 [g6]) p7 
(oSet (xMove g7) p5 
oEnd))) (kSeq (oSet (xMove g5) p8 
(oSet (xMove g1) p9 
(oSet (xCall q49 [g8, g9]) p10 
oEnd))) (kSeq (oSet (xMove g5) p11 
(oSet (xMove g11) p4 
oEnd)) kRet))))⟩
def q95 : OpdF := kC .nilFunc
noncomputable def k26 : KFun := ⟨[rTmp (nat_lit 2) g2], (kSeq (oSet (xTurn (tnBox g0)) p1 
(oSet (xMove q95) p2 
oEnd)) (kSeq (oSet (xLook (lkMkFunc (.func (nat_lit 55)) [] [g1])) p3 
(oSet (xMove g3) p2 
oEnd)) kRet))⟩
def q96 : OpdF := kC (.map none)
def q97 : OpdF := kC (.func (.func (nat_lit 56)) ⟨[]⟩ ⟨[]⟩)
def q98 : List Value := [(.int .i64 (.ofNat (nat_lit 0))), (.int .i64 (.ofNat (nat_lit 0))), (.int .u8 (.ofNat (nat_lit 0))), (.int .u8 (.ofNat (nat_lit 0))), (.int .u8 (.ofNat (nat_lit 0))), (.int .u8 (.ofNat (nat_lit 0))), (.int .u8 (.ofNat (nat_lit 0))), (.int .u8 (.ofNat (nat_lit 0))), (.int .u8 (.ofNat (nat_lit 0))), (.int .u8 (.ofNat (nat_lit 0))), (.int .u8 (.ofNat (nat_lit 0))), (.int .u8 (.ofNat (nat_lit 0))), (.int .u8 (.ofNat (nat_lit 0))), (.int .u8 (.ofNat (nat_lit 0))), (.int .u8 (.ofNat (nat_lit 0))), (.int .u8 (.ofNat (nat_lit 0))), (.int .u8 (.ofNat (nat_lit 0))), (.int .u8 (.ofNat (nat_lit 0))), (.int .u8 (.ofNat (nat_lit 0))), (.int .u8 (.ofNat (nat_lit 0))), (.int .u8 (.ofNat (nat_lit 0))), (.int .u8 (.ofNat (nat_lit 0))), (.int .u8 (.ofNat (nat_lit 0))), (.int .u8 (.ofNat (nat_lit 0))), (.int .u8 (.ofNat (nat_lit 0))), (.int .u8 (.ofNat (nat_lit 0))), (.int .u8 (.ofNat (nat_lit 0))), (.int .u8 (.ofNat (nat_lit 0))), (.int .u8 (.ofNat (nat_lit 0))), (.int .u8 (.ofNat (nat_lit 0))), (.int .u8 (.ofNat (nat_lit 0))), (.int .u8 (.ofNat (nat_lit 0))), (.int .u8 (.ofNat (nat_lit 0))), (.int .u8 (.ofNat (nat_lit 0))), (.slice none (nat_lit 0) (nat_lit 0))]
noncomputable def k27 : KFun := ⟨[rTmp (nat_lit 2) g2], (kSeq (oSet (xMove q96) p2 
oEnd) (kSeq (oSet (xTurn (tnMkMap (.many (nat_lit 32) .u8))) p8 
(oSet (xMove g8) p3 
oEnd)) (kSeq (kSeq (oSet (xMove g0) p9 
(oSet (xNil g9) p10 
(oSet (xLook (lkFieldAddr (nat_lit 38) g10)) p11 
(oSet (xLook (lkLoad1 g11)) p12 
(oSet (xTurn (tnRangeMap g12)) p13 
oEnd))))) (kBlock (nat_lit 0) (kLoop (kSeq (oSet (xNextMap g13) p14 
(oSet (xLook (lkExtract (nat_lit 0) g14)) p15 
oEnd)) (kSeq (kCond g15 kSkip (kExit (nat_lit 0))) (kBlock (nat_lit 1) (kSeq (oSet (xLook (lkEntry g13)) p16 
(oSet (xLook (lkExtract (nat_lit 0) g16)) p17 
(oSet (xLook (lkExtract (nat_lit 1) g16)) p18 
(oSet (xTurn (tnAlloc q8)) p4 
(oSet (xTurn (tnAlloc q72)) p5 
(oDo (xTurn (tnStore (nat_lit 32) g4 g17)) 
(oDo (xTurn (tnStore (nat_lit 2) g5 g18)) 
oEnd))))))) (kSeq (kDraw 
(dLook (nat_lit 0) [] [] (lkMove g0) p19 
(dTurn (nat_lit 1) [] [] false (xNil g19) p20 
(dLook (nat_lit 2) [] [] (lkFieldAddr (nat_lit 0) g20) p21 
(dLook (nat_lit 3) [] [] (lkLoadN (nat_lit 32) g4) p22 
(dTurn (nat_lit 4) [] [] true (xCall q97 [g21, g22]) p23 
(dLook (nat_lit 5) [] [(nat_lit 4)] (lkUn .not g23) p24 (dEnd [(nat_lit 19), (nat_lit 20), (nat_lit 21), (nat_lit 22), (nat_lit 23), (nat_lit 24)])))))))) (kCond g24 (oSet (xMove g3) p25 
(oSet (xLook (lkLoadN (nat_lit 32) g4)) p26 
(oSet (xLook (lkLoadN (nat_lit 2) g5)) p27 
(oDo (xTurn (tnMapUpdate (.many (nat_lit 32) .u8) g25 g26 g27)) 
oEnd)))) kSkip))))))))) (kSeq (kSeq (oSet (xMove g0) p28 
(oSet (xNil g28) p29 
(oSet (xLook (lkFieldAddr (nat_lit 0) g29)) p30 
(oSet (xLook (lkFieldAddr (nat_lit 0) g30)) p31 
(oSet (xLook (lkLoad1 g31)) p32 
(oSet (xLook (lkLen .sl g32)) p33 
(oSet (xMove q15) p34 
oEnd))))))) (kBlock (nat_lit 2) (kLoop (kSeq (oSet (xLook (lkBin .lss g34 g33)) p35 
oEnd) (kSeq (kCond g35 kSkip (kExit (nat_lit 2))) (kSeq (kBlock (nat_lit 3) (kSeq (oSet (xLook (lkIxSl (nat_lit 35) g32 g34)) p36 
(oSet (xLook (lkLoadN (nat_lit 35) g36)) p37 
(oSet (xTurn (tnAlloc q98)) p7 
(oDo (xTurn (tnStore (nat_lit 35) g7 g37)) 
oEnd)))) (oSet (xMove g3) p38 
(oSet (xLook (lkFieldAddr (nat_lit 2) g7)) p39 
(oSet (xLook (lkLoadN (nat_lit 32) g39)) p40 
(oSet (xLook (lkFieldAddr (nat_lit 0) g7)) p41 
(oSet (xLook (lkLoadN (nat_lit 2) g41)) p42 
(oDo (xTurn (tnMapUpdate (.many (nat_lit 32) .u8) g38 g40 g42)) 
oEnd)))))))) (oSet (xLook (lkBin .add g34 q26)) p43 
(oSet (xMove g43) p34 
oEnd)))))))) (kSeq (oSet (xMove g3) p44 
(oSet (xMove g44) p2 
oEnd)) kRet)))))⟩
def q102 : List Value := [(.pointer none), (.int .i64 (.ofNat (nat_lit 0))), (.map none)]
def q103 : OpdF := kC (.func (.func (nat_lit 58)) ⟨[]⟩ ⟨[]⟩)
def q104 : CCode := (.region false [⟨none, (some (nat_lit 9)), (.move (.tmp (nat_lit 24))), (nat_lit 0), [], []⟩])
def q105 : CCode := (.block (nat_lit 1) (.region false [⟨none, (some (nat_lit 25)), (.load1 (.tmp (nat_lit 7))), (nat_lit 0), [], []⟩,
⟨none, (some (nat_lit 26)), (.move (.tmp (nat_lit 9))), (nat_lit 1), [], []⟩,
⟨none, (some (nat_lit 27)), (.buildSlice [(.string ⟨⟨[]⟩⟩)] [⟨(nat_lit 0), (nat_lit 1), (.tmp (nat_lit 26))⟩] (nat_lit 1)), (nat_lit 2), [], []⟩,
⟨none, (some (nat_lit 28)), (.append (nat_lit 1) (.tmp (nat_lit 25)) (.tmp (nat_lit 27))), (nat_lit 3), [], []⟩,
⟨none, none, (.store (nat_lit 1) (.tmp (nat_lit 7)) (.tmp (nat_lit 28))), (nat_lit 4), [], []⟩]))
noncomputable def k30 : KFun := ⟨[rTmp (nat_lit 4) g4, rTmp (nat_lit 5) g5], (kSeq (oSet (xTurn (tnBox g1)) p3 
(oSet (xMove q19) p4 
(oSet (xMove q4) p5 
oEnd))) (kSeq (oSet (xMove g0) p10 
(oSet (xTurn (tnMkMap (.many (nat_lit 32) .u8))) p11 
(oSet (xLook (lkBuild q102 [((nat_lit 0), (nat_lit 1), g10), ((nat_lit 2), (nat_lit 1), g11)])) p12 
(oSet (xTurn (tnBox g12)) p13 
(oSet (xMove g13) p6 
oEnd))))) (kSeq (kSeq (oSet (xMove g0) p14 
(oSet (xCall q31 [g14]) p15 
oEnd)) (kCond g15 (kSeq (oSet (xMove g6) p16 
(oSet (xNil g16) p17 
(oSet (xLook (lkFieldAddr (nat_lit 1) g17)) p18 
(oDo (xTurn (tnStore (nat_lit 1) g18 q26)) 
oEnd)))) (kSeq (oSet (xMove g6) p19 
(oSet (xMove q19) p4 
(oSet (xMove g19) p5 
oEnd))) kRet)) kSkip)) (kSeq (oSet (xTurn (tnAlloc q83)) p7 
oEnd) (kSeq (kSeq (oSet (xMove g6) p20 
(oSet (xLook (lkLoadN (nat_lit 32) g3)) p21 
(oSet (xCall q103 [g20, g21]) p22 
oEnd))) (kBlock (nat_lit 0) (kRange g22 [(nat_lit 23), (nat_lit 24)] q104 q105))) (kSeq (kSeq (oSet (xMove g6) p29 
(oSet (xNil g29) p30 
(oSet (xLook (lkFieldAddr (nat_lit 1) g30)) p31 
(oSet (xLook (lkLoad1 g31)) p32 
(oSet (xLook (lkEq true .int g32 q15)) p33 
oEnd))))) (kCond g33 (kSeq (oSet (xMove g6) p34 
(oSet (xMove q19) p4 
(oSet (xMove g34) p5 
oEnd))) kRet) kSkip)) (kSeq (oSet (xLook (lkLoad1 g7)) p35 
(oSet (xMove g6) p36 
(oSet (xMove g35) p4 
(oSet (xMove g36) p5 
oEnd)))) kRet)))))))⟩
def q106 : OpdF := kC (.func (.func (nat_lit 60)) ⟨[]⟩ ⟨[]⟩)
def q107 : OpdF := kC (.func (.func (nat_lit 59)) ⟨[]⟩ ⟨[]⟩)
noncomputable def k31 : KFun := ⟨[], (kSeq (oSet (xMove g0) p5 
(oSet (xLook (lkLen .sl g5)) p6 
(oSet (xMove g6) p4 
oEnd))) (oSet (xMove g0) p7 
(oSet (xMove g4) p8 
(oSet (xMove g4) p9 
(oSet (xLook (lkIntTo .u64 g9)) p10 
(oSet (xCall q106 [g10]) p11 
(oSet (xMove g1) p12 
(oSet (xCall q107 [g7, q15, g8, g11, g12]) p13 
oEnd))))))))⟩
def q109 : OpdF := kC (.func (.func (nat_lit 62)) ⟨[]⟩ ⟨[]⟩)
noncomputable def k34 : KFun := ⟨[rTmp (nat_lit 6) g6], (kSeq (oSet (xMove q0) p6 
oEnd) (kSeq (oSet (xMove g0) p12 
(oSet (xMove g1) p13 
(oSet (xCall q7 [g12, g13]) p14 
(oSet (xMove g14) p11 
(oSet (xLook (lkExtract (nat_lit 0) g11)) p15 
(oSet (xLook (lkExtract (nat_lit 1) g11)) p16 
(oSet (xTurn (tnAlloc q8)) p7 
(oDo (xTurn (tnStore (nat_lit 32) g7 g15)) 
(oSet (xMove g16) p8 
oEnd))))))))) (kSeq (oSet (xMove g0) p18 
(oSet (xLook (lkLoadN (nat_lit 32) g7)) p19 
(oSet (xCall q79 [g18, g19]) p20 
(oSet (xMove g20) p17 
(oSet (xLook (lkExtract (nat_lit 0) g17)) p21 
(oSet (xLook (lkExtract (nat_lit 1) g17)) p22 
(oSet (xMove g21) p9 
(oSet (xMove g22) p10 
oEnd)))))))) (kSeq (oSet (xMove g8) p23 
(oSet (xLook (lkEq false .int g23 q15)) p24 
(oSet (xMove g24) p25 
(oSetIf (wantT g25) (xMove g10) p26 
(oSetIf (wantT g25) (xLook (lkEq false .int g26 q15)) p27 
(oSet (xLook (lkPick g25 g27 q0)) p28 
(oSet (xMove g28) p29 
(oSetIf (wantT g29) (xMove g9) p30 
(oSetIf (wantT g29) (xMove g2) p31 
(oSetIf (wantT g29) (xCall q109 [g30, g31]) p32 
(oSet (xLook (lkPick g29 g32 q0)) p33 
(oSet (xMove g33) p6 
oEnd)))))))))))) kRet))))⟩
def q110 : OpdF := kC (.func (.func (nat_lit 63)) ⟨[]⟩ ⟨[]⟩)
def q111 : List Value := [(.int .u8 (.ofNat (nat_lit 0))), (.int .u8 (.ofNat (nat_lit 0))), (.int .u8 (.ofNat (nat_lit 0))), (.int .u8 (.ofNat (nat_lit 0))), (.int .u8 (.ofNat (nat_lit 0))), (.int .u8 (.ofNat (nat_lit 0))), (.int .u8 (.ofNat (nat_lit 0))), (.int .u8 (.ofNat (nat_lit 0))), (.int .u8 (.ofNat (nat_lit 0))), (.int .u8 (.ofNat (nat_lit 0))), (.int .u8 (.ofNat (nat_lit 0))), (.int .u8 (.ofNat (nat_lit 0))), (.int .u8 (.ofNat (nat_lit 0))), (.int .u8 (.ofNat (nat_lit 0))), (.int .u8 (.ofNat (nat_lit 0))), (.int .u8 (.ofNat (nat_lit 0))), (.int .u8 (.ofNat (nat_lit 0))), (.int .u8 (.ofNat (nat_lit 0))), (.int .u8 (.ofNat (nat_lit 0))), (.int .u8 (.ofNat (nat_lit 0))), (.int .u8 (.ofNat (nat_lit 0))), (.int .u8 (.ofNat (nat_lit 0))), (.int .u8 (.ofNat (nat_lit 0))), (.int .u8 (.ofNat (nat_lit 0))), (.int .u8 (.ofNat (nat_lit 0))), (.int .u8 (.ofNat (nat_lit 0))), (.int .u8 (.ofNat (nat_lit 0))), (.int .u8 (.ofNat (nat_lit 0))), (.int .u8 (.ofNat (nat_lit 0))), (.int .u8 (.ofNat (nat_lit 0))), (.int .u8 (.ofNat (nat_lit 0))), (.int .u8 (.ofNat (nat_lit 0))), (.int .u8 (.ofNat (nat_lit 0))), (.int .u8 (.ofNat (nat_lit 0))), (.int .u8 (.ofNat (nat_lit 0))), (.int .u8 (.ofNat (nat_lit 0))), (.int .u8 (.ofNat (nat_lit 0))), (.int .u8 (.ofNat (nat_lit 0))), (.int .u8 (.ofNat (nat_lit 0))), (.int .u8 (.ofNat (nat_lit 0))), (.int .u8 (.ofNat (nat_lit 0))), (.int .u8 (.ofNat (nat_lit 0))), (.int .u8 (.ofNat (nat_lit 0))), (.int .u8 (.ofNat (nat_lit 0))), (.int .u8 (.ofNat (nat_lit 0))), (.int .u8 (.ofNat (nat_lit 0))), (.int .u8 (.ofNat (nat_lit 0))), (.int .u8 (.ofNat (nat_lit 0))), (.int .u8 (.ofNat (nat_lit 0))), (.int .u8 (.ofNat (nat_lit 0))), (.int .u8 (.ofNat (nat_lit 0))), (.int .u8 (.ofNat (nat_lit 0))), (.int .u8 (.ofNat (nat_lit 0))), (.int .u8 (.ofNat (nat_lit 0))), (.int .u8 (.ofNat (nat_lit 0))), (.int .u8 (.ofNat (nat_lit 0))), (.int .u8 (.ofNat (nat_lit 0))), (.int .u8 (.ofNat (nat_lit 0))), (.int .u8 (.ofNat (nat_lit 0))), (.int .u8 (.ofNat (nat_lit 0))), (.int .u8 (.ofNat (nat_lit 0))), (.int .u8 (.ofNat (nat_lit 0))), (.int .u8 (.ofNat (nat_lit 0))), (.int .u8 (.ofNat (nat_lit 0)))]
def q112 : List Value := [(.int .i64 (.ofNat (nat_lit 0))), (.int .u8 (.ofNat (nat_lit 0))), (.int .u8 (.ofNat (nat_lit 0))), (.int .u8 (.ofNat (nat_lit 0))), (.int .u8 (.ofNat (nat_lit 0))), (.int .u8 (.ofNat (nat_lit 0))), (.int .u8 (.ofNat (nat_lit 0))), (.int .u8 (.ofNat (nat_lit 0))), (.int .u8 (.ofNat (nat_lit 0))), (.int .u8 (.ofNat (nat_lit 0))), (.int .u8 (.ofNat (nat_lit 0))), (.int .u8 (.ofNat (nat_lit 0))), (.int .u8 (.ofNat (nat_lit 0))), (.int .u8 (.ofNat (nat_lit 0))), (.int .u8 (.ofNat (nat_lit 0))), (.int .u8 (.ofNat (nat_lit 0))), (.int .u8 (.ofNat (nat_lit 0))), (.int .u8 (.ofNat (nat_lit 0))), (.int .u8 (.ofNat (nat_lit 0))), (.int .u8 (.ofNat (nat_lit 0))), (.int .u8 (.ofNat (nat_lit 0))), (.int .u8 (.ofNat (nat_lit 0))), (.int .u8 (.ofNat (nat_lit 0))), (.int .u8 (.ofNat (nat_lit 0))), (.int .u8 (.ofNat (nat_lit 0))), (.int .u8 (.ofNat (nat_lit 0))), (.int .u8 (.ofNat (nat_lit 0))), (.int .u8 (.ofNat (nat_lit 0))), (.int .u8 (.ofNat (nat_lit 0))), (.int .u8 (.ofNat (nat_lit 0))), (.int .u8 (.ofNat (nat_lit 0))), (.int .u8 (.ofNat (nat_lit 0))), (.int .u8 (.ofNat (nat_lit 0))), (.int .u8 (.ofNat (nat_lit 0))), (.int .u8 (.ofNat (nat_lit 0))), (.int .u8 (.ofNat (nat_lit 0))), (.int .u8 (.ofNat (nat_lit 0))), (.int .u8 (.ofNat (nat_lit 0))), (.int .u8 (.ofNat (nat_lit 0))), (.int .u8 (.ofNat (nat_lit 0))), (.int .u8 (.ofNat (nat_lit 0))), (.int .u8 (.ofNat (nat_lit 0))), (.int .u8 (.ofNat (nat_lit 0))), (.int .u8 (.ofNat (nat_lit 0))), (.int .u8 (.ofNat (nat_lit 0))), (.int .u8 (.ofNat (nat_lit 0))), (.int .u8 (.ofNat (nat_lit 0))), (.int .u8 (.ofNat (nat_lit 0))), (.int .u8 (.ofNat (nat_lit 0))), (.int .u8 (.ofNat (nat_lit 0))), (.int .u8 (.ofNat (nat_lit 0))), (.int .u8 (.ofNat (nat_lit 0))), (.int .u8 (.ofNat (nat_lit 0))), (.int .u8 (.ofNat (nat_lit 0))), (.int .u8 (.ofNat (nat_lit 0))), (.int .u8 (.ofNat (nat_lit 0))), (.int .u8 (.ofNat (nat_lit 0))), (.int .u8 (.ofNat (nat_lit 0))), (.int .u8 (.ofNat (nat_lit 0))), (.int .u8 (.ofNat (nat_lit 0))), (.int .u8 (.ofNat (nat_lit 0))), (.int .u8 (.ofNat (nat_lit 0))), (.int .u8 (.ofNat (nat_lit 0))), (.int .u8 (.ofNat (nat_lit 0))), (.int .u8 (.ofNat (nat_lit 0)))]
noncomputable def k35 : KFun := ⟨[rTmp (nat_lit 4) g4, rTmp (nat_lit 5) g5], (kSeq (oSet (xMove q19) p4 
(oSet (xMove q15) p5 
oEnd)) (kSeq (kSeq (oSet (xMove g0) p10 
(oSet (xMove g1) p11 
(oSet (xCall q110 [g10, g11]) p12 
(oSet (xMove g12) p6 
oEnd)))) (kSeq (oSet (xMove g6) p13 
(oSet (xLook (lkEq true .int g13 q15)) p14 
oEnd)) (kCond g14 (kSeq (oSet (xMove g6) p15 
(oSet (xMove q19) p4 
(oSet (xMove g15) p5 
oEnd))) kRet) kSkip))) (kSeq (oSet (xMove g0) p16 
(oSet (xNil g16) p17 
(oSet (xLook (lkFieldAddr (nat_lit 5) g17)) p18 
(oSet (xLook (lkLoad1 g18)) p19 
(oSet (xMove g1) p20 
(oSet (xLook (lkLookup (.one (.int .i64)) (.agg ⟨[(.int .u8 (.ofNat (nat_lit 0))), (.int .u8 (.ofNat (nat_lit 0))), (.int .u8 (.ofNat (nat_lit 0))), (.int .u8 (.ofNat (nat_lit 0))), (.int .u8 (.ofNat (nat_lit 0))), (.int .u8 (.ofNat (nat_lit 0))), (.int .u8 (.ofNat (nat_lit 0))), (.int .u8 (.ofNat (nat_lit 0))), (.int .u8 (.ofNat (nat_lit 0))), (.int .u8 (.ofNat (nat_lit 0))), (.int .u8 (.ofNat (nat_lit 0))), (.int .u8 (.ofNat (nat_lit 0))), (.int .u8 (.ofNat (nat_lit 0))), (.int .u8 (.ofNat (nat_lit 0))), (.int .u8 (.ofNat (nat_lit 0))), (.int .u8 (.ofNat (nat_lit 0))), (.int .u8 (.ofNat (nat_lit 0))), (.int .u8 (.ofNat (nat_lit 0))), (.int .u8 (.ofNat (nat_lit 0))), (.int .u8 (.ofNat (nat_lit 0))), (.int .u8 (.ofNat (nat_lit 0))), (.int .u8 (.ofNat (nat_lit 0))), (.int .u8 (.ofNat (nat_lit 0))), (.int .u8 (.ofNat (nat_lit 0))), (.int .u8 (.ofNat (nat_lit 0))), (.int .u8 (.ofNat (nat_lit 0))), (.int .u8 (.ofNat (nat_lit 0))), (.int .u8 (.ofNat (nat_lit 0))), (.int .u8 (.ofNat (nat_lit 0))), (.int .u8 (.ofNat (nat_lit 0))), (.int .u8 (.ofNat (nat_lit 0))), (.int .u8 (.ofNat (nat_lit 0))), (.int .u8 (.ofNat (nat_lit 0))), (.int .u8 (.ofNat (nat_lit 0))), (.int .u8 (.ofNat (nat_lit 0))), (.int .u8 (.ofNat (nat_lit 0))), (.int .u8 (.ofNat (nat_lit 0))), (.int .u8 (.ofNat (nat_lit 0))), (.int .u8 (.ofNat (nat_lit 0))), (.int .u8 (.ofNat (nat_lit 0))), (.int .u8 (.ofNat (nat_lit 0))), (.int .u8 (.ofNat (nat_lit 0))), (.int .u8 (.ofNat (nat_lit 0))), (.int .u8 (.ofNat (nat_lit 0))), (.int .u8 (.ofNat (nat_lit 0))), (.int .u8 (.ofNat (nat_lit 0))), (.int .u8 (.ofNat (nat_lit 0))), (.int .u8 (.ofNat (nat_lit 0))), (.int .u8 (.ofNat (nat_lit 0))), (.int .u8 (.ofNat (nat_lit 0))), (.int .u8 (.ofNat (nat_lit 0))), (.int .u8 (.ofNat (nat_lit 0))), (.int .u8 (.ofNat (nat_lit 0))), (.int .u8 (.ofNat (nat_lit 0))), (.int .u8 (.ofNat (nat_lit 0))), (.int .u8 (.ofNat (nat_lit 0))), (.int .u8 (.ofNat (nat_lit 0))), (.int .u8 (.ofNat (nat_lit 0))), (.int .u8 (.ofNat (nat_lit 0))), (.int .u8 (.ofNat (nat_lit 0))), (.int .u8 (.ofNat (nat_lit 0))), (.int .u8 (.ofNat (nat_lit 0))), (.int .u8 (.ofNat (nat_lit 0))), (.int .u8 (.ofNat (nat_lit 0)))]⟩) false g19 g20)) p21 
(oSet (xTurn (tnAlloc q111)) p7 
(oDo (xTurn (tnStore (nat_lit 64) g7 g21)) 
oEnd)))))))) (kSeq (kSeq (oSet (xMove g0) p22 
(oSet (xNil g22) p23 
(oSet (xLook (lkFieldAddr (nat_lit 6) g23)) p24 
(oSet (xLook (lkLoad1 g24)) p25 
(oSet (xLook (lkLen .sl g25)) p26 
(oSet (xMove q15) p27 
oEnd)))))) (kBlock (nat_lit 0) (kLoop (kSeq (oSet (xLook (lkBin .lss g27 g26)) p28 
oEnd) (kSeq (kCond g28 kSkip (kExit (nat_lit 0))) (kSeq (kBlock (nat_lit 1) (kSeq (oSet (xLook (lkIxSl (nat_lit 65) g25 g27)) p29 
(oSet (xLook (lkLoadN (nat_lit 65) g29)) p30 
(oSet (xTurn (tnAlloc q112)) p9 
(oDo (xTurn (tnStore (nat_lit 65) g9 g30)) 
oEnd)))) (kSeq (oSet (xLook (lkFieldAddr (nat_lit 0) g9)) p31 
(oSet (xLook (lkLoad1 g31)) p32 
(oSet (xMove g1) p33 
(oSet (xLook (lkEq false .int g32 g33)) p34 
oEnd)))) (kCond g34 (oSet (xLook (lkFieldAddr (nat_lit 1) g9)) p35 
(oSet (xLook (lkLoadN (nat_lit 64) g35)) p36 
(oDo (xTurn (tnStore (nat_lit 64) g7 g36)) 
oEnd))) kSkip)))) (oSet (xLook (lkBin .add g27 q26)) p37 
(oSet (xMove g37) p27 
oEnd)))))))) (kSeq (oSet (xLook (lkSliceArr (nat_lit 64) (nat_lit 1) g7 none none none)) p38 
(oSet (xMove g38) p4 
(oSet (xMove q15) p5 
oEnd))) kRet)))))⟩
def q113 : OpdF := kC (.func (.func (nat_lit 64)) ⟨[]⟩ ⟨[]⟩)
noncomputable def k36 : KFun := ⟨[rTmp (nat_lit 2) g2], (kSeq (oSet (xMove q15) p2 
oEnd) (kSeq (kSeq (oSet (xMove g0) p3 
(oSet (xCall q113 [g3]) p4 
oEnd)) (kCond g4 (kSeq (oSet (xMove q15) p2 
oEnd) kRet) kSkip)) (kSeq (oSet (xMove g0) p5 
(oSet (xNil g5) p6 
(oSet (xLook (lkFieldAddr (nat_lit 4) g6)) p7 
(oSet (xLook (lkLoad1 g7)) p8 
(oSet (xMove g8) p2 
oEnd))))) kRet)))⟩
def q114 : List Value := [(.slice none (nat_lit 0) (nat_lit 0)), (.map none)]
noncomputable def k37 : KFun := ⟨[rCellN (nat_lit 0) g0 (nat_lit 2)], (kSeq (oSet (xTurn (tnAlloc q114)) p0 
oEnd) (kSeq (oSet (xTurn (tnMkMap (.many (nat_lit 32) .u8))) p1 
(oSet (xLook (lkBuild q114 [((nat_lit 1), (nat_lit 1), g1)])) p2 
(oDo (xTurn (tnStore (nat_lit 2) g0 g2)) 
oEnd))) kRet))⟩
def q115 : OpdF := kC (.func (.func (nat_lit 65)) ⟨[]⟩ ⟨[]⟩)
def q116 : OpdF := kC (.func (.func (nat_lit 66)) ⟨[]⟩ ⟨[]⟩)
noncomputable def k38 : KFun := ⟨[rCellN (nat_lit 2) g2 (nat_lit 35), rTmp (nat_lit 3) g3, rTmp (nat_lit 4) g4], (kSeq (oSet (xTurn (tnAlloc q70)) p2 
(oSet (xMove q15) p3 
(oSet (xMove q15) p4 
oEnd))) (kSeq (oSet (xMove g0) p10 
(oSet (xCall q115 [g10]) p11 
(oSet (xMove g11) p9 
(oSet (xLook (lkExtract (nat_lit 0) g9)) p12 
(oSet (xLook (lkExtract (nat_lit 1) g9)) p13 
(oSet (xLook (lkExtract (nat_lit 2) g9)) p14 
(oSet (xMove g12) p5 
(oSet (xMove g13) p6 
(oSet (xMove g14) p7 
oEnd))))))))) (kSeq (kSeq (oSet (xMove g7) p15 
(oSet (xLook (lkEq true .int g15 q15)) p16 
oEnd)) (kCond g16 (kSeq (oSet (xLook (lkBuild q70 [])) p17 
(oSet (xMove g7) p18 
(oDo (xTurn (tnStore (nat_lit 35) g2 g17)) 
(oSet (xMove q15) p3 
(oSet (xMove g18) p4 
oEnd))))) kRet) kSkip)) (kSeq (kSeq (oSet (xMove g5) p19 
(oSet (xCall q116 [g19]) p20 
(oSet (xMove g20) p8 
oEnd))) (kBlock (nat_lit 0) (kSeq (oSet (xMove g8) p22 
(oSet (xLook (lkBin .geq g22 q15)) p23 
(oSet (xMove g23) p21 
oEnd))) (kCond g21 (kSeq (oSet (xMove g5) p24 
(oSet (xMove g8) p25 
(oSet (xLook (lkIxSl (nat_lit 1) g24 g25)) p26 
(oSet (xLook (lkLoad1 g26)) p27 
(oSet (xNil g27) p28 
(oSet (xLook (lkLoadN (nat_lit 35) g28)) p29 
(oSet (xMove g8) p30 
(oDo (xTurn (tnStore (nat_lit 35) g2 g29)) 
(oSet (xMove g30) p3 
(oSet (xMove q15) p4 
oEnd)))))))))) kRet) (kSeq (oSet (xMove g6) p32 
(oSet (xMove g32) p31 
oEnd)) (kCond g31 (kSeq (oSet (xLook (lkBuild q70 [])) p33 
(oDo (xTurn (tnStore (nat_lit 35) g2 g33)) 
(oSet (xMove q15) p3 
(oSet (xMove q71) p4 
oEnd)))) kRet) kSkip)))))) (kSeq (oSet (xLook (lkBuild q70 [])) p34 
(oDo (xTurn (tnStore (nat_lit 35) g2 g34)) 
(oSet (xMove q15) p3 
(oSet (xMove q74) p4 
oEnd)))) kRet)))))⟩
def q117 : OpdF := kC (.func (.func (nat_lit 67)) ⟨[]⟩ ⟨[]⟩)
noncomputable def k41 : KFun := ⟨[rTmp (nat_lit 2) g2], (kSeq (oSet (xTurn (tnBox g0)) p1 
(oSet (xMove q15) p2 
oEnd)) (kSeq (oSet (xLook (lkFieldAddr (nat_lit 1) g1)) p3 
(oSet (xLook (lkLoad1 g3)) p4 
(oSet (xCall q117 [g4]) p5 
(oSet (xMove g5) p2 
oEnd)))) kRet))⟩
def q118 : OpdF := kC (.int .i64 (.ofNat (nat_lit 64)))
def q119 : OpdF := kC (.int .u64 (.ofNat (nat_lit 8)))
def q120 : OpdF := kC (.int .i64 (.ofNat (nat_lit 9)))
def q121 : OpdF := kC (.int .i64 (.ofNat (nat_lit 37)))
def q124 : OpdF := kC (.func (.func (nat_lit 68)) ⟨[]⟩ ⟨[]⟩)
def q125 : OpdF := kC (.func (.func (nat_lit 69)) ⟨[]⟩ ⟨[]⟩)
def q126 : OpdF := kC (.func (.func (nat_lit 70)) ⟨[]⟩ ⟨[]⟩)
def q127 : OpdF := kC (.func (.func (nat_lit 71)) ⟨[]⟩ ⟨[]⟩)
def q128 : OpdF := kC (.int .i64 (.ofNat (nat_lit 1500)))
def q129 : OpdF := kC (.func (.func (nat_lit 72)) ⟨[]⟩ ⟨[]⟩)
def q130 : OpdF := kC (.func (.func (nat_lit 73)) ⟨[]⟩ ⟨[]⟩)
def q131 : OpdF := kC (.func (.func (nat_lit 74)) ⟨[]⟩ ⟨[]⟩)
def q132 : OpdF := kC (.func (.func (nat_lit 75)) ⟨[]⟩ ⟨[]⟩)
def q134 : OpdF := kC (.func (.func (nat_lit 77)) ⟨[]⟩ ⟨[]⟩)
def q135 : OpdF := kC (.func (.func (nat_lit 78)) ⟨[]⟩ ⟨[]⟩)
noncomputable def k44d0 : KD := 
(dLook (nat_lit 18) [] [(nat_lit 15)] (lkPick g83 q13 g87) p88 (dEnd [(nat_lit 70), (nat_lit 71), (nat_lit 72), (nat_lit 73), (nat_lit 74), (nat_lit 75), (nat_lit 76), (nat_lit 77), (nat_lit 78), (nat_lit 79), (nat_lit 80), (nat_lit 81), (nat_lit 82), (nat_lit 83), (nat_lit 84), (nat_lit 85), (nat_lit 86), (nat_lit 87), (nat_lit 88)]))
noncomputable def k44d1 : KD := 
(dIf [(nat_lit 15)] (wantF g83) p87 (dLook (nat_lit 17) [] [(nat_lit 15)] (lkEq true (.flat [(.int .u8), (.int .u8), (.int .u8), (.int .u8), (.int .u8), (.int .u8), (.int .u8), (.int .u8), (.int .u8), (.int .u8), (.int .u8), (.int .u8), (.int .u8), (.int .u8), (.int .u8), (.int .u8), (.int .u8), (.int .u8), (.int .u8), (.int .u8), (.int .u8), (.int .u8), (.int .u8), (.int .u8), (.int .u8), (.int .u8), (.int .u8), (.int .u8), (.int .u8), (.int .u8), (.int .u8), (.int .u8)]) g85 g86) p87 k44d0) k44d0)
noncomputable def k44d2 : KD := 
(dIf [] (wantF g83) p86 (dLook (nat_lit 16) [(nat_lit 15)] [] (lkLoadN (nat_lit 32) g3) p86 k44d1) k44d1)
noncomputable def k44d3 : KD := 
(dIf [] (wantF g83) p85 (dTurn (nat_lit 15) [] [] true (xCall q84 [g84]) p85 k44d2) k44d2)
noncomputable def k44d4 : KD := 
(dLook (nat_lit 12) [] [] (lkPick g76 q13 g81) p82 
(dLook (nat_lit 13) [] [] (lkMove g82) p83 
(dIf [] (wantF g83) p84 (dLook (nat_lit 14) [] [] (lkMove g12) p84 k44d3) k44d3)))
noncomputable def k44d5 : KD := 
(dIf [] (wantF g76) p81 (dLook (nat_lit 11) [] [] (lkEq true .int g78 g80) p81 k44d4) k44d4)
noncomputable def k44d6 : KD := 
(dIf [] (wantF g76) p80 (dLook (nat_lit 10) [] [] (lkLoad1 g79) p80 k44d5) k44d5)
noncomputable def k44d7 : KD := 
(dIf [] (wantF g76) p79 (dLook (nat_lit 9) [] [] (lkFieldAddr (nat_lit 1) g8) p79 k44d6) k44d6)
noncomputable def k44d8 : KD := 
(dIf [] (wantF g76) p78 (dLook (nat_lit 8) [] [] (lkLen .sl g77) p78 k44d7) k44d7)
noncomputable def k44d9 : KD := 
(dLook (nat_lit 5) [] [] (lkPick g72 q13 g74) p75 
(dLook (nat_lit 6) [] [] (lkMove g75) p76 
(dIf [] (wantF g76) p77 (dLook (nat_lit 7) [] [] (lkMove g12) p77 k44d8) k44d8)))
noncomputable def k44d10 : KD := 
(dIf [] (wantF g72) p74 (dLook (nat_lit 4) [] [] (lkEq true .int g73 q26) p74 k44d9) k44d9)
noncomputable def k44 : KFun := ⟨[rTmp (nat_lit 4) g4, rTmp (nat_lit 5) g5], (kSeq (oSet (xTurn (tnBox g1)) p3 
(oSet (xMove q19) p4 
(oSet (xMove q15) p5 
oEnd))) (kSeq (kSeq (oSet (xMove g0) p13 
(oSet (xCall q39 [g13]) p14 
(oSet (xMove g14) p6 
oEnd))) (kSeq (oSet (xMove g6) p15 
(oSet (xLook (lkEq true .int g15 q15)) p16 
oEnd)) (kCond g16 (kSeq (oSet (xMove g6) p17 
(oSet (xMove q19) p4 
(oSet (xMove g17) p5 
oEnd))) kRet) kSkip))) (kSeq (kSeq (oSet (xMove g0) p18 
(oSet (xLook (lkLoadN (nat_lit 32) g3)) p19 
(oSet (xCall q134 [g18, g19]) p20 
(oSet (xLook (lkUn .not g20)) p21 
oEnd)))) (kCond g21 (kSeq (oSet (xMove q19) p4 
(oSet (xMove q71) p5 
oEnd)) kRet) kSkip)) (kSeq (kSeq (kDraw 
(dLook (nat_lit 0) [] [] (lkMove g0) p22 
(dTurn (nat_lit 1) [] [] false (xNil g22) p23 
(dLook (nat_lit 2) [] [] (lkFieldAddr (nat_lit 0) g23) p24 
(dLook (nat_lit 3) [] [] (lkLoadN (nat_lit 32) g3) p25 
(dTurn (nat_lit 4) [] [] true (xCall q135 [g24, g25]) p26 
(dLook (nat_lit 5) [] [(nat_lit 4)] (lkMove g26) p7 (dEnd [(nat_lit 22), (nat_lit 23), (nat_lit 24), (nat_lit 25), (nat_lit 26), (nat_lit 7)])))))))) (kSeq (oSet (xMove g7) p27 
(oSet (xLook (lkBin .geq g27 q15)) p28 
oEnd)) (kCond g28 (kSeq (oSet (xTurn (tnBuildSlice [] [] (nat_lit 0))) p29 
(oSet (xMove g0) p30 
(oSet (xNil g30) p31 
(oSet (xLook (lkFieldAddr (nat_lit 0) g31)) p32 
(oSet (xLook (lkFieldAddr (nat_lit 0) g32)) p33 
(oSet (xLook (lkLoad1 g33)) p34 
(oSet (xMove g7) p35 
(oSet (xLook (lkIxSl (nat_lit 35) g34 g35)) p36 
(oSet (xLook (lkFieldAddr (nat_lit 34) g36)) p37 
(oSet (xLook (lkLoad1 g37)) p38 
(oSet (xTurn (tnAppend (nat_lit 1) g29 g38)) p39 
(oSet (xMove g39) p4 
(oSet (xMove q15) p5 
oEnd))))))))))))) kRet) kSkip))) (kSeq (kDraw 
(dLook (nat_lit 0) [] [] (lkMove g0) p40 
(dTurn (nat_lit 1) [] [] false (xNil g40) p41 
(dLook (nat_lit 2) [] [] (lkFieldAddr (nat_lit 38) g41) p42 
(dLook (nat_lit 3) [] [] (lkLoad1 g42) p43 
(dLook (nat_lit 4) [] [] (lkLoadN (nat_lit 32) g3) p44 
(dLook (nat_lit 5) [] [] (lkLookup (.many (nat_lit 32) .u8) (.agg ⟨[(.int .i64 (.ofNat (nat_lit 0))), (.int .i64 (.ofNat (nat_lit 0)))]⟩) false g43 g44) p45 
(dTurn (nat_lit 6) [] [] false (xTurn (tnAlloc q72)) p8 
(dTurn (nat_lit 7) [] [] true (xTurn (tnStore (nat_lit 2) g8 g45)) noDst (dEnd [(nat_lit 40), (nat_lit 41), (nat_lit 42), (nat_lit 43), (nat_lit 44), (nat_lit 45), (nat_lit 8)])))))))))) (kSeq (kDraw 
(dLook (nat_lit 0) [] [] (lkMove g0) p47 
(dTurn (nat_lit 1) [] [] false (xNil g47) p48 
(dLook (nat_lit 2) [] [] (lkFieldAddr (nat_lit 2) g48) p49 
(dLook (nat_lit 3) [] [] (lkLoad1 g49) p50 
(dLook (nat_lit 4) [] [] (lkFieldAddr (nat_lit 0) g8) p51 
(dLook (nat_lit 5) [] [] (lkLoad1 g51) p52 
(dLook (nat_lit 6) [] [] (lkLoadN (nat_lit 2) g8) p53 
(dTurn (nat_lit 7) [(nat_lit 3), (nat_lit 5)] [] true (xCall q76 [g53]) p54 
(dTurn (nat_lit 8) [] [(nat_lit 7)] true (xCall q75 [g50, g52, g54]) p55 
(dLook (nat_lit 9) [] [(nat_lit 7), (nat_lit 8)] (lkMove g55) p46 
(dLook (nat_lit 10) [] [(nat_lit 7), (nat_lit 8)] (lkExtract (nat_lit 0) g46) p56 
(dLook (nat_lit 11) [] [(nat_lit 7), (nat_lit 8)] (lkExtract (nat_lit 1) g46) p57 
(dLook (nat_lit 12) [] [(nat_lit 7), (nat_lit 8)] (lkMove g56) p9 
(dLook (nat_lit 13) [] [(nat_lit 7), (nat_lit 8)] (lkMove g57) p10 (dEnd [(nat_lit 47), (nat_lit 48), (nat_lit 49), (nat_lit 50), (nat_lit 51), (nat_lit 52), (nat_lit 53), (nat_lit 54), (nat_lit 55), (nat_lit 46), (nat_lit 56), (nat_lit 57), (nat_lit 9), (nat_lit 10)])))))))))))))))) (kSeq (kSeq (oSet (xMove g10) p58 
(oSet (xLook (lkEq true .int g58 q15)) p59 
oEnd)) (kCond g59 (kSeq (oSet (xMove g0) p60 
(oSet (xNil g60) p61 
(oSet (xLook (lkFieldAddr (nat_lit 39) g61)) p62 
(oDo (xTurn (tnStore (nat_lit 1) g62 q13)) 
oEnd)))) (kSeq (oSet (xMove g10) p63 
(oSet (xMove q19) p4 
(oSet (xMove g63) p5 
oEnd))) kRet)) kSkip)) (kSeq (oSet (xMove g9) p65 
(oSet (xCall q77 [g65]) p66 
(oSet (xMove g66) p64 
(oSet (xLook (lkExtract (nat_lit 0) g64)) p67 
(oSet (xLook (lkExtract (nat_lit 1) g64)) p68 
(oSet (xLook (lkExtract (nat_lit 2) g64)) p69 
(oSet (xMove g67) p11 
(oSet (xMove g68) p12 
(oSet (xMove g69) p10 
oEnd))))))))) (kSeq (kSeq (kDraw 
(dLook (nat_lit 0) [] [] (lkMove g10) p70 
(dLook (nat_lit 1) [] [] (lkEq true .int g70 q15) p71 
(dLook (nat_lit 2) [] [] (lkMove g71) p72 
(dIf [] (wantF g72) p73 (dLook (nat_lit 3) [] [] (lkMove g11) p73 k44d10) k44d10))))) (kCond g88 (kSeq (oSet (xMove q19) p4 
(oSet (xMove q74) p5 
oEnd)) kRet) kSkip)) (kSeq (oSet (xMove g12) p89 
(oSet (xMove g89) p4 
(oSet (xMove q15) p5 
oEnd))) kRet))))))))))⟩
noncomputable def k45 : KFun := ⟨[rTmp (nat_lit 4) g4], (kSeq (oSet (xMove q15) p4 
oEnd) (kSeq (kSeq (oSet (xMove g0) p6 
(oSet (xLook (lkLen .sl g6)) p7 
(oSet (xMove q15) p8 
oEnd))) (kBlock (nat_lit 0) (kLoop (kSeq (oSet (xLook (lkBin .lss g8 g7)) p9 
oEnd) (kSeq (kCond g9 kSkip (kExit (nat_lit 0))) (kSeq (kBlock (nat_lit 1) (kSeq (oSet (xMove g8) p10 
(oSet (xMove g10) p5 
oEnd)) (kSeq (oSet (xMove g1) p11 
(oSet (xMove g0) p12 
(oSet (xMove g5) p13 
(oSet (xLook (lkIxSl (nat_lit 1) g12 g13)) p14 
(oSet (xLook (lkLoad1 g14)) p15 
(oSet (xCall g11 [g15]) p16 
oEnd)))))) (kCond g16 (kSeq (oSet (xMove g5) p17 
(oSet (xMove g17) p4 
oEnd)) kRet) kSkip)))) (oSet (xLook (lkBin .add g8 q26)) p18 
(oSet (xMove g18) p8 
oEnd)))))))) (kSeq (oSet (xMove q62) p4 
oEnd) kRet)))⟩
def q136 : OpdF := kC (.int .u8 (.ofNat (nat_lit 8)))
noncomputable def k46 : KFun := ⟨[rTmp (nat_lit 6) g6], (kSeq (oSet (xTurn (tnBox g2)) p5 
(oSet (xMove q0) p6 
oEnd)) (kSeq (oSet (xMove g1) p7 
(oSet (xLook (lkEq false .int g7 q67)) p8 
(oSet (xMove g8) p9 
(oSetIf (wantF g9) (xLook (lkIxArr (nat_lit 32) (nat_lit 1) g5 q15)) p10 
(oSetIf (wantF g9) (xLook (lkLoad1 g10)) p11 
(oSetIf (wantF g9) (xLook (lkBin .rem g11 q136)) p12 
(oSetIf (wantF g9) (xLook (lkEq false .int g12 q53)) p13 
(oSetIf (wantF g9) (xMove g13) p14 
(oSetIf (wantT g14) (xMove g0) p15 
(oSetIf (wantT g14) (xLook (lkEq false .int g15 q15)) p16 
(oSetIf (wantT g14) (xMove g16) p17 
(oSetIf (wantF g17) (xMove g1) p18 
(oSetIf (wantF g17) (xLook (lkBin .gtr g18 q26)) p19 
(oSetIf (wantT g14) (xLook (lkPick g17 q13 g19)) p20 
(oSetIf (wantF g9) (xLook (lkPick g14 g20 q0)) p21 
(oSet (xLook (lkPick g9 q13 g21)) p22 
(oSet (xMove g22) p6 
oEnd))))))))))))))))) kRet))⟩
def q137 : OpdF := kC (.func (.func (nat_lit 79)) ⟨[]⟩ ⟨[]⟩)
def q138 : List Value := [(.bool false), (.int .u32 (.ofNat (nat_lit 0))), (.int .u32 (.ofNat (nat_lit 0))), (.int .u32 (.ofNat (nat_lit 0))), (.int .u32 (.ofNat (nat_lit 0))), (.int .u32 (.ofNat (nat_lit 0))), (.int .u32 (.ofNat (nat_lit 0))), (.int .u32 (.ofNat (nat_lit 0))), (.int .u32 (.ofNat (nat_lit 0))), (.int .u8 (.ofNat (nat_lit 0))), (.int .u8 (.ofNat (nat_lit 0))), (.int .u8 (.ofNat (nat_lit 0))), (.int .u8 (.ofNat (nat_lit 0))), (.int .u8 (.ofNat (nat_lit 0))), (.int .u8 (.ofNat (nat_lit 0))), (.int .u8 (.ofNat (nat_lit 0))), (.int .u8 (.ofNat (nat_lit 0))), (.int .u8 (.ofNat (nat_lit 0))), (.int .u8 (.ofNat (nat_lit 0))), (.int .u8 (.ofNat (nat_lit 0))), (.int .u8 (.ofNat (nat_lit 0))), (.int .u8 (.ofNat (nat_lit 0))), (.int .u8 (.ofNat (nat_lit 0))), (.int .u8 (.ofNat (nat_lit 0))), (.int .u8 (.ofNat (nat_lit 0))), (.int .u8 (.ofNat (nat_lit 0))), (.int .u8 (.ofNat (nat_lit 0))), (.int .u8 (.ofNat (nat_lit 0))), (.int .u8 (.ofNat (nat_lit 0))), (.int .u8 (.ofNat (nat_lit 0))), (.int .u8 (.ofNat (nat_lit 0))), (.int .u8 (.ofNat (nat_lit 0))), (.int .u8 (.ofNat (nat_lit 0))), (.int .u8 (.ofNat (nat_lit 0))), (.int .u8 (.ofNat (nat_lit 0))), (.int .u8 (.ofNat (nat_lit 0))), (.int .u8 (.ofNat (nat_lit 0))), (.int .u8 (.ofNat (nat_lit 0))), (.int .u8 (.ofNat (nat_lit 0))), (.int .u8 (.ofNat (nat_lit 0))), (.int .u8 (.ofNat (nat_lit 0))), (.int .u8 (.ofNat (nat_lit 0))), (.int .u8 (.ofNat (nat_lit 0))), (.int .u8 (.ofNat (nat_lit 0))), (.int .u8 (.ofNat (nat_lit 0))), (.int .u8 (.ofNat (nat_lit 0))), (.int .u8 (.ofNat (nat_lit 0))), (.int .u8 (.ofNat (nat_lit 0))), (.int .u8 (.ofNat (nat_lit 0))), (.int .u8 (.ofNat (nat_lit 0))), (.int .u8 (.ofNat (nat_lit 0))), (.int .u8 (.ofNat (nat_lit 0))), (.int .u8 (.ofNat (nat_lit 0))), (.int .u8 (.ofNat (nat_lit 0))), (.int .u8 (.ofNat (nat_lit 0))), (.int .u8 (.ofNat (nat_lit 0))), (.int .u8 (.ofNat (nat_lit 0))), (.int .u8 (.ofNat (nat_lit 0))), (.int .u8 (.ofNat (nat_lit 0))), (.int .u8 (.ofNat (nat_lit 0))), (.int .u8 (.ofNat (nat_lit 0))), (.int .u8 (.ofNat (nat_lit 0))), (.int .u8 (.ofNat (nat_lit 0))), (.int .u8 (.ofNat (nat_lit 0))), (.int .u8 (.ofNat (nat_lit 0))), (.int .u8 (.ofNat (nat_lit 0))), (.int .u8 (.ofNat (nat_lit 0))), (.int .u8 (.ofNat (nat_lit 0))), (.int .u8 (.ofNat (nat_lit 0))), (.int .u8 (.ofNat (nat_lit 0))), (.int .u8 (.ofNat (nat_lit 0))), (.int .u8 (.ofNat (nat_lit 0))), (.int .u8 (.ofNat (nat_lit 0))), (.int .i64 (.ofNat (nat_lit 0)))]
noncomputable def k47 : KFun := ⟨[rTmp (nat_lit 0) g0], (kSeq (oSet (xMove q4) p0 
oEnd) (kSeq (oSet (xCall q137 []) p1 
(oSet (xLook (lkBuild q138 [((nat_lit 0), (nat_lit 1), q13), ((nat_lit 1), (nat_lit 8), g1)])) p2 
(oSet (xTurn (tnBox g2)) p3 
(oSet (xMove g3) p0 
oEnd)))) kRet))⟩
def q139 : OpdF := kC (.func (.func (nat_lit 80)) ⟨[]⟩ ⟨[]⟩)
def q140 : OpdF := kC (.func (.func (nat_lit 81)) ⟨[]⟩ ⟨[]⟩)
noncomputable def k48 : KFun := ⟨[], (kSeq (kSeq (oSet (xMove g0) p5 
(oSet (xCall q139 [g5]) p6 
oEnd)) (kCond g6 kRet kSkip)) (kBlock (nat_lit 0) (kLoop (kSeq (kSeq (oSet (xMove g1) p7 
(oSet (xLook (lkLen .sl g7)) p8 
(oSet (xLook (lkBin .gtr g8 q15)) p9 
oEnd))) (kCond g9 kSkip (kExit (nat_lit 0)))) (kBlock (nat_lit 1) (kSeq (kDraw 
(dLook (nat_lit 0) [] [] (lkMove g0) p10 
(dTurn (nat_lit 1) [] [] false (xNil g10) p11 
(dLook (nat_lit 2) [] [] (lkFieldAddr (nat_lit 9) g11) p12 
(dLook (nat_lit 3) [] [] (lkMove g0) p13 
(dTurn (nat_lit 4) [] [] false (xNil g13) p14 
(dLook (nat_lit 5) [] [] (lkFieldAddr (nat_lit 73) g14) p15 
(dLook (nat_lit 6) [] [] (lkLoad1 g15) p16 
(dLook (nat_lit 7) [] [] (lkBin .rem g16 q118) p17 
(dLook (nat_lit 8) [] [] (lkSliceArr (nat_lit 64) (nat_lit 1) g12 (some g17) none none) p18 
(dLook (nat_lit 9) [] [] (lkMove g1) p19 
(dTurn (nat_lit 10) [] [] true (xTurn (tnCopy (nat_lit 1) g18 g19)) p20 
(dLook (nat_lit 11) [] [(nat_lit 10)] (lkMove g20) p4 (dEnd [(nat_lit 10), (nat_lit 11), (nat_lit 12), (nat_lit 13), (nat_lit 14), (nat_lit 15), (nat_lit 16), (nat_lit 17), (nat_lit 18), (nat_lit 19), (nat_lit 20), (nat_lit 4)])))))))))))))) (kSeq (oSet (xMove g0) p21 
(oSet (xNil g21) p22 
(oSet (xLook (lkFieldAddr (nat_lit 73) g22)) p23 
(oSet (xLook (lkLoad1 g23)) p24 
(oSet (xMove g4) p25 
(oSet (xLook (lkBin .add g24 g25)) p26 
(oSet (xNil g21) p27 
(oSet (xLook (lkFieldAddr (nat_lit 73) g27)) p28 
(oDo (xTurn (tnStore (nat_lit 1) g28 g26)) 
oEnd))))))))) (kSeq (oSet (xMove g1) p29 
(oSet (xMove g4) p30 
(oSet (xLook (lkSliceSl (nat_lit 1) g29 (some g30) none none)) p31 
(oSet (xMove g31) p1 
oEnd)))) (kSeq (oSet (xMove g0) p32 
(oSet (xNil g32) p33 
(oSet (xLook (lkFieldAddr (nat_lit 73) g33)) p34 
(oSet (xLook (lkLoad1 g34)) p35 
(oSet (xLook (lkBin .rem g35 q118)) p36 
(oSet (xLook (lkEq false .int g36 q15)) p37 
oEnd)))))) (kCond g37 (kDraw 
(dLook (nat_lit 0) [] [] (lkMove g0) p38 
(dLook (nat_lit 1) [] [] (lkMove g0) p39 
(dTurn (nat_lit 2) [] [] false (xNil g39) p40 
(dLook (nat_lit 3) [] [] (lkFieldAddr (nat_lit 1) g40) p41 
(dLook (nat_lit 4) [] [] (lkLoadN (nat_lit 8) g41) p42 
(dLook (nat_lit 5) [] [] (lkMove g0) p43 
(dTurn (nat_lit 6) [] [] false (xNil g43) p44 
(dLook (nat_lit 7) [] [] (lkFieldAddr (nat_lit 9) g44) p45 
(dLook (nat_lit 8) [] [] (lkSliceArr (nat_lit 64) (nat_lit 1) g45 none none none) p46 
(dTurn (nat_lit 9) [] [] true (xCall q140 [g42, g46]) p47 
(dTurn (nat_lit 10) [] [(nat_lit 9)] false (xNil g38) p48 
(dLook (nat_lit 11) [] [(nat_lit 9)] (lkFieldAddr (nat_lit 1) g48) p49 
(dTurn (nat_lit 12) [] [(nat_lit 9)] true (xTurn (tnStore (nat_lit 8) g49 g47)) noDst (dEnd [(nat_lit 38), (nat_lit 39), (nat_lit 40), (nat_lit 41), (nat_lit 42), (nat_lit 43), (nat_lit 44), (nat_lit 45), (nat_lit 46), (nat_lit 47), (nat_lit 48), (nat_lit 49)]))))))))))))))) kSkip))))))))))⟩
def q141 : List Value := [(.int .u8 (.ofNat (nat_lit 0))), (.int .u8 (.ofNat (nat_lit 0))), (.int .u8 (.ofNat (nat_lit 0))), (.int .u8 (.ofNat (nat_lit 0))), (.int .u8 (.ofNat (nat_lit 0))), (.int .u8 (.ofNat (nat_lit 0))), (.int .u8 (.ofNat (nat_lit 0))), (.int .u8 (.ofNat (nat_lit 0))), (.int .u8 (.ofNat (nat_lit 0))), (.int .u8 (.ofNat (nat_lit 0))), (.int .u8 (.ofNat (nat_lit 0))), (.int .u8 (.ofNat (nat_lit 0))), (.int .u8 (.ofNat (nat_lit 0))), (.int .u8 (.ofNat (nat_lit 0))), (.int .u8 (.ofNat (nat_lit 0))), (.int .u8 (.ofNat (nat_lit 0))), (.int .u8 (.ofNat (nat_lit 0))), (.int .u8 (.ofNat (nat_lit 0))), (.int .u8 (.ofNat (nat_lit 0))), (.int .u8 (.ofNat (nat_lit 0))), (.int .u8 (.ofNat (nat_lit 0))), (.int .u8 (.ofNat (nat_lit 0))), (.int .u8 (.ofNat (nat_lit 0))), (.int .u8 (.ofNat (nat_lit 0))), (.int .u8 (.ofNat (nat_lit 0))), (.int .u8 (.ofNat (nat_lit 0))), (.int .u8 (.ofNat (nat_lit 0))), (.int .u8 (.ofNat (nat_lit 0))), (.int .u8 (.ofNat (nat_lit 0))), (.int .u8 (.ofNat (nat_lit 0))), (.int .u8 (.ofNat (nat_lit 0))), (.int .u8 (.ofNat (nat_lit 0))), (.int .u8 (.ofNat (nat_lit 0))), (.int .u8 (.ofNat (nat_lit 0))), (.int .u8 (.ofNat (nat_lit 0))), (.int .u8 (.ofNat (nat_lit 0))), (.int .u8 (.ofNat (nat_lit 0))), (.int .u8 (.ofNat (nat_lit 0))), (.int .u8 (.ofNat (nat_lit 0))), (.int .u8 (.ofNat (nat_lit 0))), (.int .u8 (.ofNat (nat_lit 0))), (.int .u8 (.ofNat (nat_lit 0))), (.int .u8 (.ofNat (nat_lit 0))), (.int .u8 (.ofNat (nat_lit 0))), (.int .u8 (.ofNat (nat_lit 0))), (.int .u8 (.ofNat (nat_lit 0))), (.int .u8 (.ofNat (nat_lit 0))), (.int .u8 (.ofNat (nat_lit 0))), (.int .u8 (.ofNat (nat_lit 0))), (.int .u8 (.ofNat (nat_lit 0))), (.int .u8 (.ofNat (nat_lit 0))), (.int .u8 (.ofNat (nat_lit 0))), (.int .u8 (.ofNat (nat_lit 0))), (.int .u8 (.ofNat (nat_lit 0))), (.int .u8 (.ofNat (nat_lit 0))), (.int .u8 (.ofNat (nat_lit 0))), (.int .u8 (.ofNat (nat_lit 0))), (.int .u8 (.ofNat (nat_lit 0))), (.int .u8 (.ofNat (nat_lit 0))), (.int .u8 (.ofNat (nat_lit 0))), (.int .u8 (.ofNat (nat_lit 0))), (.int .u8 (.ofNat (nat_lit 0))), (.int .u8 (.ofNat (nat_lit 0))), (.int .u8 (.ofNat (nat_lit 0))), (.int .u8 (.ofNat (nat_lit 0))), (.int .u8 (.ofNat (nat_lit 0))), (.int .u8 (.ofNat (nat_lit 0))), (.int .u8 (.ofNat (nat_lit 0))), (.int .u8 (.ofNat (nat_lit 0))), (.int .u8 (.ofNat (nat_lit 0))), (.int .u8 (.ofNat (nat_lit 0))), (.int .u8 (.ofNat (nat_lit 0)))]
def q142 : OpdF := kC (.int .u8 (.ofNat (nat_lit 128)))
def q143 : OpdF := kC (.int .i64 (.ofNat (nat_lit 119)))
def q144 : OpdF := kC (.int .i64 (.ofNat (nat_lit 56)))
def q145 : OpdF := kC (.int .i64 (.ofNat (nat_lit 24)))
noncomputable def k49 : KFun := ⟨[rCellN (nat_lit 2) g2 (nat_lit 32)], (kSeq (oSet (xTurn (tnAlloc q8)) p2 
oEnd) (kSeq (kSeq (oSet (xMove g0) p12 
(oSet (xCall q139 [g12]) p13 
oEnd)) (kCond g13 (kSeq (oSet (xLook (lkBuild q8 [])) p14 
(oDo (xTurn (tnStore (nat_lit 32) g2 g14)) 
oEnd)) kRet) kSkip)) (kSeq (oSet (xMove g0) p15 
(oSet (xNil g15) p16 
(oSet (xLook (lkLoadN (nat_lit 74) g16)) p17 
(oSet (xTurn (tnAlloc q138)) p3 
(oDo (xTurn (tnStore (nat_lit 74) g3 g17)) 
oEnd))))) (kSeq (oSet (xLook (lkBuild q141 [((nat_lit 0), (nat_lit 1), q142)])) p18 
(oSet (xTurn (tnAlloc q141)) p4 
(oDo (xTurn (tnStore (nat_lit 72) g4 g18)) 
oEnd))) (kSeq (oSet (xMove g0) p19 
(oSet (xNil g19) p20 
(oSet (xLook (lkFieldAddr (nat_lit 73) g20)) p21 
(oSet (xLook (lkLoad1 g21)) p22 
(oSet (xLook (lkBin .rem g22 q118)) p23 
(oSet (xLook (lkBin .sub q143 g23)) p24 
(oSet (xLook (lkBin .rem g24 q118)) p25 
(oSet (xLook (lkBin .add q26 g25)) p26 
(oSet (xMove g26) p5 
oEnd))))))))) (kSeq (oSet (xMove g0) p27 
(oSet (xNil g27) p28 
(oSet (xLook (lkFieldAddr (nat_lit 73) g28)) p29 
(oSet (xLook (lkLoad1 g29)) p30 
(oSet (xLook (lkIntTo .u64 g30)) p31 
(oSet (xLook (lkBin .mul g31 q119)) p32 
(oSet (xMove g32) p6 
oEnd))))))) (kSeq (kSeq (oSet (xMove q15) p33 
oEnd) (kBlock (nat_lit 0) (kLoop (kSeq (oSet (xLook (lkBin .lss g33 q67)) p34 
oEnd) (kSeq (kCond g34 kSkip (kExit (nat_lit 0))) (kSeq (kBlock (nat_lit 1) (kSeq (oSet (xMove g33) p35 
(oSet (xMove g35) p7 
oEnd)) (oSet (xMove g5) p36 
(oSet (xMove g7) p37 
(oSet (xLook (lkBin .add g36 g37)) p38 
(oSet (xMove g6) p39 
(oSet (xMove g7) p40 
(oSet (xLook (lkBin .mul q67 g40)) p41 
(oSet (xLook (lkBin .sub q144 g41)) p42 
(oSet (xLook (lkBin .shr g39 g42)) p43 
(oSet (xLook (lkIntTo .u8 g43)) p44 
(oSet (xLook (lkIxArr (nat_lit 72) (nat_lit 1) g4 g38)) p45 
(oDo (xTurn (tnStore (nat_lit 1) g45 g44)) 
oEnd))))))))))))) (oSet (xLook (lkBin .add g33 q26)) p46 
(oSet (xMove g46) p33 
oEnd)))))))) (kSeq (oSet (xMove g5) p47 
(oSet (xLook (lkBin .add g47 q67)) p48 
(oSet (xLook (lkSliceArr (nat_lit 72) (nat_lit 1) g4 none (some g48) none)) p49 
(oSet (xCall q86 [g3, g49]) p50 
oEnd)))) (kSeq (oSet (xTurn (tnAlloc q8)) p8 
oEnd) (kSeq (kSeq (oSet (xLook (lkFieldAddr (nat_lit 1) g3)) p51 
(oSet (xLook (lkLoadN (nat_lit 8) g51)) p52 
(oSet (xMove q15) p53 
oEnd))) (kBlock (nat_lit 2) (kLoop (kSeq (oSet (xLook (lkBin .lss g53 q67)) p54 
oEnd) (kSeq (kCond g54 kSkip (kExit (nat_lit 2))) (kSeq (kBlock (nat_lit 3) (kSeq (oSet (xMove g53) p55 
(oSet (xLook (lkIxVal1 (nat_lit 8) g52 g53)) p56 
(oSet (xMove g55) p9 
(oSet (xMove g56) p10 
oEnd)))) (kSeq (oSet (xMove q15) p57 
oEnd) (kBlock (nat_lit 4) (kLoop (kSeq (oSet (xLook (lkBin .lss g57 q66)) p58 
oEnd) (kSeq (kCond g58 kSkip (kExit (nat_lit 4))) (kSeq (kBlock (nat_lit 5) (kSeq (oSet (xMove g57) p59 
(oSet (xMove g59) p11 
oEnd)) (oSet (xMove g9) p60 
(oSet (xLook (lkBin .mul q66 g60)) p61 
(oSet (xMove g11) p62 
(oSet (xLook (lkBin .add g61 g62)) p63 
(oSet (xMove g10) p64 
(oSet (xMove g11) p65 
(oSet (xLook (lkBin .mul q67 g65)) p66 
(oSet (xLook (lkBin .sub q145 g66)) p67 
(oSet (xLook (lkBin .shr g64 g67)) p68 
(oSet (xLook (lkIntTo .u8 g68)) p69 
(oSet (xLook (lkIxArr (nat_lit 32) (nat_lit 1) g8 g63)) p70 
(oDo (xTurn (tnStore (nat_lit 1) g70 g69)) 
oEnd)))))))))))))) (oSet (xLook (lkBin .add g57 q26)) p71 
(oSet (xMove g71) p57 
oEnd)))))))))) (oSet (xLook (lkBin .add g53 q26)) p72 
(oSet (xMove g72) p53 
oEnd)))))))) (kSeq (oSet (xLook (lkLoadN (nat_lit 32) g8)) p73 
(oDo (xTurn (tnStore (nat_lit 32) g2 g73)) 
oEnd)) kRet)))))))))))⟩
def q146 : OpdF := kC (.func (.func (nat_lit 82)) ⟨[]⟩ ⟨[]⟩)
def q147 : OpdF := kC (.func (.func (nat_lit 83)) ⟨[]⟩ ⟨[]⟩)
def q148 : OpdF := kC (.func (.func (nat_lit 84)) ⟨[]⟩ ⟨[]⟩)
def q149 : OpdF := kC (.func (.func (nat_lit 85)) ⟨[]⟩ ⟨[]⟩)
def q150 : OpdF := kC (.func (.func (nat_lit 86)) ⟨[]⟩ ⟨[]⟩)
def q151 : OpdF := kC (.func (.func (nat_lit 87)) ⟨[]⟩ ⟨[]⟩)
def q152 : OpdF := kC (.func (.func (nat_lit 88)) ⟨[]⟩ ⟨[]⟩)
noncomputable def k50 : KFun := ⟨[rCellN (nat_lit 4) g4 (nat_lit 33), rTmp (nat_lit 5) g5], (kSeq (oSet (xTurn (tnBox g0)) p2 
(oSet (xTurn (tnAlloc q89)) p4 
(oSet (xMove q15) p5 
oEnd))) (kSeq (oSet (xCall q146 []) p14 
(oSet (xMove g14) p6 
oEnd)) (kSeq (oSet (xMove g6) p15 
(oSet (xLook (lkFieldAddr (nat_lit 0) g2)) p16 
(oSet (xLook (lkLoad1 g16)) p17 
(oSet (xCall q147 [g15, g17]) p18 
oEnd)))) (kSeq (oSet (xMove g6) p19 
(oSet (xLook (lkFieldAddr (nat_lit 1) g2)) p20 
(oSet (xLook (lkLoad1 g20)) p21 
(oSet (xLook (lkLen .sl g21)) p22 
(oSet (xLook (lkFieldAddr (nat_lit 2) g2)) p23 
(oSet (xLook (lkLoad1 g23)) p24 
(oSet (xLook (lkLen .sl g24)) p25 
(oSet (xLook (lkBin .add g22 g25)) p26 
(oSet (xCall q147 [g19, g26]) p27 
oEnd))))))))) (kSeq (kSeq (oSet (xLook (lkFieldAddr (nat_lit 1) g2)) p28 
(oSet (xLook (lkLoad1 g28)) p29 
(oSet (xLook (lkLen .sl g29)) p30 
(oSet (xMove q15) p31 
oEnd)))) (kBlock (nat_lit 0) (kLoop (kSeq (oSet (xLook (lkBin .lss g31 g30)) p32 
oEnd) (kSeq (kCond g32 kSkip (kExit (nat_lit 0))) (kSeq (kBlock (nat_lit 1) (kSeq (oSet (xLook (lkIxSl (nat_lit 1) g29 g31)) p33 
(oSet (xLook (lkLoad1 g33)) p34 
(oSet (xMove g34) p8 
oEnd))) (oSet (xMove g6) p35 
(oSet (xMove g8) p36 
(oSet (xCall q148 [g35, g36]) p37 
oEnd))))) (oSet (xLook (lkBin .add g31 q26)) p38 
(oSet (xMove g38) p31 
oEnd)))))))) (kSeq (kSeq (oSet (xLook (lkFieldAddr (nat_lit 2) g2)) p39 
(oSet (xLook (lkLoad1 g39)) p40 
(oSet (xLook (lkLen .sl g40)) p41 
(oSet (xMove q15) p42 
oEnd)))) (kBlock (nat_lit 2) (kLoop (kSeq (oSet (xLook (lkBin .lss g42 g41)) p43 
oEnd) (kSeq (kCond g43 kSkip (kExit (nat_lit 2))) (kSeq (kBlock (nat_lit 3) (kSeq (oSet (xLook (lkIxSl (nat_lit 33) g40 g42)) p44 
(oSet (xLook (lkLoadN (nat_lit 33) g44)) p45 
(oSet (xTurn (tnAlloc q89)) p10 
(oDo (xTurn (tnStore (nat_lit 33) g10 g45)) 
oEnd)))) (kSeq (oSet (xMove g6) p46 
(oSet (xLook (lkFieldAddr (nat_lit 0) g10)) p47 
(oSet (xLook (lkLoadN (nat_lit 32) g47)) p48 
(oSet (xCall q149 [g46, g48]) p49 
oEnd)))) (oSet (xMove g6) p50 
(oSet (xLook (lkFieldAddr (nat_lit 32) g10)) p51 
(oSet (xLook (lkLoad1 g51)) p52 
(oSet (xCall q147 [g50, g52]) p53 
oEnd))))))) (oSet (xLook (lkBin .add g42 q26)) p54 
(oSet (xMove g54) p42 
oEnd)))))))) (kSeq (oSet (xMove g6) p56 
(oSet (xCall q150 [g56]) p57 
(oSet (xMove g57) p55 
(oSet (xLook (lkExtract (nat_lit 0) g55)) p58 
(oSet (xLook (lkExtract (nat_lit 1) g55)) p59 
(oSet (xMove g58) p11 
(oSet (xMove g59) p12 
oEnd))))))) (kSeq (kSeq (oSet (xMove g12) p60 
(oSet (xLook (lkEq true .int g60 q15)) p61 
oEnd)) (kCond g61 (kSeq (oSet (xLook (lkBuild q89 [])) p62 
(oSet (xMove g12) p63 
(oDo (xTurn (tnStore (nat_lit 33) g4 g62)) 
(oSet (xMove g63) p5 
oEnd)))) kRet) kSkip)) (kSeq (oSet (xMove g1) p65 
(oSet (xMove g11) p66 
(oSet (xCall q151 [g65, g66]) p67 
(oSet (xMove g67) p64 
(oSet (xLook (lkExtract (nat_lit 0) g64)) p68 
(oSet (xLook (lkExtract (nat_lit 1) g64)) p69 
(oSet (xTurn (tnAlloc q8)) p13 
(oDo (xTurn (tnStore (nat_lit 32) g13 g68)) 
(oSet (xMove g69) p12 
oEnd))))))))) (kSeq (kDraw 
(dLook (nat_lit 0) [] [] (lkLoadN (nat_lit 32) g13) p70 
(dLook (nat_lit 1) [] [] (lkLoadN (nat_lit 3) g2) p71 
(dTurn (nat_lit 2) [(nat_lit 0)] [] true (xCall q152 [g71]) p72 
(dLook (nat_lit 3) [] [(nat_lit 2)] (lkBuild q89 [((nat_lit 0), (nat_lit 32), g70), ((nat_lit 32), (nat_lit 1), g72)]) p73 
(dLook (nat_lit 4) [] [] (lkMove g12) p74 
(dTurn (nat_lit 5) [] [(nat_lit 2)] true (xTurn (tnStore (nat_lit 33) g4 g73)) noDst 
(dLook (nat_lit 6) [] [(nat_lit 2), (nat_lit 5)] (lkMove g74) p5 (dEnd [(nat_lit 70), (nat_lit 71), (nat_lit 72), (nat_lit 73), (nat_lit 74), (nat_lit 5)]))))))))) kRet))))))))))⟩
noncomputable def k53 : KFun := ⟨[rTmp (nat_lit 2) g2], (kSeq (oSet (xMove q0) p2 
oEnd) (kSeq (oSet (xMove g0) p3 
(oSet (xLook (lkEq false .ptr g3 q4)) p4 
(oSet (xMove g4) p5 
(oSetIf (wantF g5) (xMove g0) p6 
(oSetIf (wantF g5) (xNil g6) p7 
(oSetIf (wantF g5) (xLook (lkFieldAddr (nat_lit 2) g7)) p8 
(oSetIf (wantF g5) (xLook (lkLoad1 g8)) p9 
(oSetIf (wantF g5) (xLook (lkEq false .ptr g9 q4)) p10 
(oSet (xLook (lkPick g5 q13 g10)) p11 
(oSet (xMove g11) p2 
oEnd)))))))))) kRet))⟩
def q153 : OpdF := kC (.func (.func (nat_lit 89)) ⟨[]⟩ ⟨[]⟩)
noncomputable def k54 : KFun := ⟨[rTmp (nat_lit 2) g2], (kSeq (oSet (xMove q19) p2 
oEnd) (kSeq (oSet (xMove g0) p3 
(oSet (xCall q153 [q19, g3]) p4 
(oSet (xMove g4) p2 
oEnd))) kRet))⟩
noncomputable def k55 : KFun := ⟨[], (kSeq (oSet (xLook (lkLoad1 g1)) p4 
(oSet (xTurn (tnRangeMap g4)) p5 
oEnd)) (kBlock (nat_lit 0) (kLoop (kSeq (oSet (xNextMap g5) p6 
(oSet (xLook (lkExtract (nat_lit 0) g6)) p7 
oEnd)) (kSeq (kCond g7 kSkip (kExit (nat_lit 0))) (kBlock (nat_lit 1) (kSeq (oSet (xLook (lkEntry g5)) p8 
(oSet (xLook (lkExtract (nat_lit 0) g8)) p9 
(oSet (xTurn (tnAlloc q8)) p3 
(oDo (xTurn (tnStore (nat_lit 32) g3 g9)) 
oEnd)))) (kSeq (oSet (xMove g0) p10 
(oSet (xLook (lkLoadN (nat_lit 32) g3)) p11 
(oSet (xCall g10 [g11]) p12 
(oSet (xLook (lkUn .not g12)) p13 
oEnd)))) (kCond g13 kRet kSkip)))))))))⟩
noncomputable def k58 : KFun := ⟨[rTmp (nat_lit 4) g4], (kSeq (oSet (xTurn (tnBox g0)) p2 
(oSet (xTurn (tnBox g1)) p3 
(oSet (xMove q95) p4 
oEnd))) (kSeq (oSet (xLook (lkMkFunc (.func (nat_lit 90)) [] [g2, g3])) p5 
(oSet (xMove g5) p4 
oEnd)) kRet))⟩
def q155 : OpdF := kC (.int .i64 (.ofNat (nat_lit 12)))
def q156 : OpdF := kC (.func (.func (nat_lit 93)) ⟨[]⟩ ⟨[]⟩)
def q157 : OpdF := kC (.func (.func (nat_lit 94)) ⟨[]⟩ ⟨[]⟩)
def q158 : OpdF := kC (.func (.func (nat_lit 95)) ⟨[]⟩ ⟨[]⟩)
def q159 : OpdF := kC (.func (.func (nat_lit 96)) ⟨[]⟩ ⟨[]⟩)
def q160 : OpdF := kC (.func (.func (nat_lit 97)) ⟨[]⟩ ⟨[]⟩)
def q161 : OpdF := kC (.func (.func (nat_lit 98)) ⟨[]⟩ ⟨[]⟩)
noncomputable def k59d0 : KD := 
(dLook (nat_lit 16) [] [(nat_lit 13)] (lkPick g83 g96 q0) p97 (dEnd [(nat_lit 81), (nat_lit 82), (nat_lit 83), (nat_lit 84), (nat_lit 85), (nat_lit 86), (nat_lit 87), (nat_lit 88), (nat_lit 89), (nat_lit 90), (nat_lit 91), (nat_lit 92), (nat_lit 93), (nat_lit 94), (nat_lit 95), (nat_lit 96), (nat_lit 97)]))
noncomputable def k59d1 : KD := 
(dIf [(nat_lit 13)] (wantT g83) p96 (dLook (nat_lit 15) [] [(nat_lit 13)] (lkUn .not g95) p96 k59d0) k59d0)
noncomputable def k59d2 : KD := 
(dIf [(nat_lit 13)] (wantT g83) p95 (dLook (nat_lit 14) [] [(nat_lit 13)] (lkBin .lss g94 q15) p95 k59d1) k59d1)
noncomputable def k59d3 : KD := 
(dIf [] (wantT g83) p94 (dTurn (nat_lit 13) [] [] true (xCall g84 [g89, g93]) p94 k59d2) k59d2)
noncomputable def k59d4 : KD := 
(dIf [] (wantT g83) p93 (dLook (nat_lit 12) [] [] (lkLoadN (nat_lit 32) g92) p93 k59d3) k59d3)
noncomputable def k59d5 : KD := 
(dIf [] (wantT g83) p92 (dLook (nat_lit 11) [] [] (lkIxSl (nat_lit 32) g90 g91) p92 k59d4) k59d4)
noncomputable def k59d6 : KD := 
(dIf [] (wantT g83) p91 (dLook (nat_lit 10) [] [] (lkMove g13) p91 k59d5) k59d5)
noncomputable def k59d7 : KD := 
(dIf [] (wantT g83) p90 (dLook (nat_lit 9) [] [] (lkMove g0) p90 k59d6) k59d6)
noncomputable def k59d8 : KD := 
(dIf [] (wantT g83) p89 (dLook (nat_lit 8) [] [] (lkLoadN (nat_lit 32) g88) p89 k59d7) k59d7)
noncomputable def k59d9 : KD := 
(dIf [] (wantT g83) p88 (dLook (nat_lit 7) [] [] (lkIxSl (nat_lit 32) g85 g87) p88 k59d8) k59d8)
noncomputable def k59d10 : KD := 
(dIf [] (wantT g83) p87 (dLook (nat_lit 6) [] [] (lkBin .sub g86 q26) p87 k59d9) k59d9)
noncomputable def k59d11 : KD := 
(dIf [] (wantT g83) p86 (dLook (nat_lit 5) [] [] (lkMove g1) p86 k59d10) k59d10)
noncomputable def k59d12 : KD := 
(dIf [] (wantT g83) p85 (dLook (nat_lit 4) [] [] (lkMove g0) p85 k59d11) k59d11)
def q162 : OpdF := kC (.func (.func (nat_lit 99)) ⟨[]⟩ ⟨[]⟩)
def q163 : OpdF := kC (.func (.func (nat_lit 100)) ⟨[]⟩ ⟨[]⟩)
noncomputable def k59 : KFun := ⟨[], (kSeq (oSet (xMove q13) p10 
oEnd) (kSeq (oSet (xMove q13) p11 
oEnd) (kBlock (nat_lit 0) (kLoop (kBlock (nat_lit 1) (kSeq (oSet (xMove g2) p21 
(oSet (xMove g1) p22 
(oSet (xLook (lkBin .sub g21 g22)) p23 
(oSet (xMove g23) p12 
oEnd)))) (kSeq (kSeq (oSet (xMove g12) p24 
(oSet (xLook (lkBin .leq g24 q155)) p25 
oEnd)) (kCond g25 (kSeq (oSet (xMove g0) p26 
(oSet (xMove g1) p27 
(oSet (xMove g2) p28 
(oSet (xMove g4) p29 
(oSet (xCall q156 [g26, g27, g28, g29]) p30 
oEnd))))) kRet) kSkip)) (kSeq (kSeq (oSet (xMove g3) p31 
(oSet (xLook (lkEq false .int g31 q15)) p32 
oEnd)) (kCond g32 (kSeq (oSet (xMove g0) p33 
(oSet (xMove g1) p34 
(oSet (xMove g2) p35 
(oSet (xMove g4) p36 
(oSet (xCall q157 [g33, g34, g35, g36]) p37 
oEnd))))) kRet) kSkip)) (kSeq (kSeq (oSet (xMove g10) p38 
(oSet (xLook (lkUn .not g38)) p39 
oEnd)) (kCond g39 (kSeq (oSet (xMove g0) p40 
(oSet (xMove g1) p41 
(oSet (xMove g2) p42 
(oSet (xMove g4) p43 
(oSet (xCall q158 [g40, g41, g42, g43]) p44 
oEnd))))) (oSet (xMove g3) p45 
(oSet (xLook (lkBin .sub g45 q26)) p46 
(oSet (xMove g46) p3 
oEnd)))) kSkip)) (kSeq (oSet (xMove g0) p48 
(oSet (xMove g1) p49 
(oSet (xMove g2) p50 
(oSet (xMove g4) p51 
(oSet (xCall q159 [g48, g49, g50, g51]) p52 
(oSet (xMove g52) p47 
(oSet (xLook (lkExtract (nat_lit 0) g47)) p53 
(oSet (xLook (lkExtract (nat_lit 1) g47)) p54 
(oSet (xMove g53) p13 
(oSet (xMove g54) p14 
oEnd)))))))))) (kSeq (kSeq (oSet (xMove g14) p55 
(oSet (xLook (lkEq false .int g55 q18)) p56 
oEnd)) (kCond g56 (kSeq (oSet (xMove g0) p57 
(oSet (xMove g1) p58 
(oSet (xMove g2) p59 
(oSet (xMove g4) p60 
(oSet (xCall q160 [g57, g58, g59, g60]) p61 
oEnd))))) (kSeq (oSet (xMove g2) p62 
(oSet (xLook (lkBin .sub g62 q26)) p63 
(oSet (xMove g13) p64 
(oSet (xMove g1) p65 
(oSet (xLook (lkBin .sub g64 g65)) p66 
(oSet (xLook (lkBin .sub g63 g66)) p67 
(oSet (xMove g67) p13 
oEnd))))))) (oSet (xMove q26) p14 
oEnd))) kSkip)) (kSeq (kSeq (oSet (xMove g10) p68 
(oSet (xMove g68) p69 
(oSetIf (wantT g69) (xMove g11) p70 
(oSet (xLook (lkPick g69 g70 q0)) p71 
(oSet (xMove g71) p72 
(oSetIf (wantT g72) (xMove g14) p73 
(oSetIf (wantT g72) (xLook (lkEq false .int g73 q26)) p74 
(oSet (xLook (lkPick g72 g74 q0)) p75 
oEnd)))))))) (kCond g75 (kSeq (oSet (xMove g0) p76 
(oSet (xMove g1) p77 
(oSet (xMove g2) p78 
(oSet (xMove g4) p79 
(oSet (xCall q161 [g76, g77, g78, g79]) p80 
oEnd))))) (kCond g80 kRet kSkip)) kSkip)) (kSeq (kSeq (kDraw 
(dLook (nat_lit 0) [] [] (lkMove g1) p81 
(dLook (nat_lit 1) [] [] (lkBin .gtr g81 q15) p82 
(dLook (nat_lit 2) [] [] (lkMove g82) p83 
(dIf [] (wantT g83) p84 (dLook (nat_lit 3) [] [] (lkMove g4) p84 k59d12) k59d12))))) (kCond g97 (kSeq (oSet (xMove g0) p98 
(oSet (xMove g1) p99 
(oSet (xMove g2) p100 
(oSet (xMove g13) p101 
(oSet (xMove g4) p102 
(oSet (xCall q162 [g98, g99, g100, g101, g102]) p103 
(oSet (xMove g103) p15 
oEnd))))))) (kSeq (oSet (xMove g15) p104 
(oSet (xMove g104) p1 
oEnd)) (kExit (nat_lit 1)))) kSkip)) (kSeq (oSet (xMove g0) p106 
(oSet (xMove g1) p107 
(oSet (xMove g2) p108 
(oSet (xMove g13) p109 
(oSet (xMove g4) p110 
(oSet (xCall q163 [g106, g107, g108, g109, g110]) p111 
(oSet (xMove g111) p105 
(oSet (xLook (lkExtract (nat_lit 0) g105)) p112 
(oSet (xLook (lkExtract (nat_lit 1) g105)) p113 
(oSet (xMove g112) p16 
(oSet (xMove g113) p17 
oEnd))))))))))) (kSeq (oSet (xMove g17) p114 
(oSet (xMove g114) p11 
oEnd)) (kSeq (oSet (xMove g16) p115 
(oSet (xMove g1) p116 
(oSet (xLook (lkBin .sub g115 g116)) p117 
(oSet (xMove g2) p118 
(oSet (xMove g16) p119 
(oSet (xLook (lkBin .sub g118 g119)) p120 
(oSet (xMove g117) p18 
(oSet (xMove g120) p19 
oEnd)))))))) (kSeq (oSet (xMove g12) p121 
(oSet (xLook (lkBin .quo g121 q67)) p122 
(oSet (xMove g122) p20 
oEnd))) (kSeq (oSet (xMove g18) p123 
(oSet (xMove g19) p124 
(oSet (xLook (lkBin .lss g123 g124)) p125 
oEnd))) (kCond g125 (kSeq (oSet (xMove g18) p126 
(oSet (xMove g20) p127 
(oSet (xLook (lkBin .geq g126 g127)) p128 
(oSet (xMove g128) p10 
oEnd)))) (kSeq (oSet (xMove g0) p129 
(oSet (xMove g1) p130 
(oSet (xMove g16) p131 
(oSet (xMove g3) p132 
(oSet (xMove g4) p133 
(oSet (xCall q107 [g129, g130, g131, g132, g133]) p134 
oEnd)))))) (oSet (xMove g16) p135 
(oSet (xLook (lkBin .add g135 q26)) p136 
(oSet (xMove g136) p1 
oEnd))))) (kSeq (oSet (xMove g19) p137 
(oSet (xMove g20) p138 
(oSet (xLook (lkBin .geq g137 g138)) p139 
(oSet (xMove g139) p10 
oEnd)))) (kSeq (oSet (xMove g0) p140 
(oSet (xMove g16) p141 
(oSet (xLook (lkBin .add g141 q26)) p142 
(oSet (xMove g2) p143 
(oSet (xMove g3) p144 
(oSet (xMove g4) p145 
(oSet (xCall q107 [g140, g142, g143, g144, g145]) p146 
oEnd))))))) (oSet (xMove g16) p147 
(oSet (xMove g147) p2 
oEnd)))))))))))))))))))))))⟩
def q164 : OpdF := kC (.func (.func (nat_lit 101)) ⟨[]⟩ ⟨[]⟩)
def q165 : OpdF := kC (.func (.func (nat_lit 102)) ⟨[]⟩ ⟨[]⟩)
noncomputable def k60 : KFun := ⟨[rTmp (nat_lit 2) g2], (kSeq (oSet (xMove q15) p2 
oEnd) (kSeq (kCond q0 (kSeq (oSet (xMove g0) p3 
(oSet (xLook (lkIntTo .u32 g3)) p4 
(oSet (xCall q164 [g4]) p5 
(oSet (xMove g5) p2 
oEnd)))) kRet) kSkip) (kSeq (oSet (xMove g0) p6 
(oSet (xCall q165 [g6]) p7 
(oSet (xMove g7) p2 
oEnd))) kRet)))⟩
noncomputable def k62 : KFun := ⟨[rTmp (nat_lit 4) g4], (kSeq (oSet (xMove q0) p4 
oEnd) (kSeq (oSet (xMove g0) p5 
(oSet (xLook (lkBytesTo g5)) p6 
(oSet (xMove g1) p7 
(oSet (xLook (lkBytesTo g7)) p8 
(oSet (xLook (lkEq false .str g6 g8)) p9 
(oSet (xMove g9) p4 
oEnd)))))) kRet))⟩
noncomputable def k63 : KFun := ⟨[rTmp (nat_lit 4) g4], (kSeq (oSet (xMove q15) p4 
oEnd) (kSeq (kBlock (nat_lit 0) (kSeq (oSet (xMove g0) p6 
(oSet (xCall q113 [g6]) p7 
(oSet (xMove g7) p5 
oEnd))) (kCond g5 (kSeq (oSet (xMove q26) p4 
oEnd) kRet) (kSeq (oSet (xMove g0) p9 
(oSet (xNil g9) p10 
(oSet (xLook (lkFieldAddr (nat_lit 0) g10)) p11 
(oSet (xLook (lkFieldAddr (nat_lit 2) g11)) p12 
(oSet (xLook (lkLoad1 g12)) p13 
(oSet (xMove g13) p8 
oEnd)))))) (kCond g8 (kSeq (oSet (xMove q93) p4 
oEnd) kRet) (kSeq (oSet (xMove g1) p15 
(oSet (xLook (lkBin .lss g15 q15)) p16 
(oSet (xMove g16) p17 
(oSetIf (wantF g17) (xMove g1) p18 
(oSetIf (wantF g17) (xMove g0) p19 
(oSetIf (wantF g17) (xNil g19) p20 
(oSetIf (wantF g17) (xLook (lkFieldAddr (nat_lit 4) g20)) p21 
(oSetIf (wantF g17) (xLook (lkLoad1 g21)) p22 
(oSetIf (wantF g17) (xLook (lkBin .geq g18 g22)) p23 
(oSet (xLook (lkPick g17 q13 g23)) p24 
(oSet (xMove g24) p14 
oEnd))))))))))) (kCond g14 (kSeq (oSet (xMove q44) p4 
oEnd) kRet) kSkip))))))) (kSeq (oSet (xMove q15) p4 
oEnd) kRet)))⟩
noncomputable def k64 : KFun := ⟨[rTmp (nat_lit 2) g2], (kSeq (oSet (xMove q0) p2 
oEnd) (kSeq (oSet (xMove g0) p3 
(oSet (xLook (lkEq false .ptr g3 q4)) p4 
(oSet (xMove g4) p5 
(oSetIf (wantF g5) (xMove g0) p6 
(oSetIf (wantF g5) (xNil g6) p7 
(oSetIf (wantF g5) (xLook (lkFieldAddr (nat_lit 3) g7)) p8 
(oSetIf (wantF g5) (xLook (lkLoad1 g8)) p9 
(oSetIf (wantF g5) (xLook (lkUn .not g9)) p10 
(oSet (xLook (lkPick g5 q13 g10)) p11 
(oSet (xMove g11) p2 
oEnd)))))))))) kRet))⟩
def q166 : OpdF := kC (.func (.func (nat_lit 103)) ⟨[]⟩ ⟨[]⟩)
def q167 : List Value := [(.pointer none)]
noncomputable def k65 : KFun := ⟨[rTmp (nat_lit 2) g2, rTmp (nat_lit 3) g3, rTmp (nat_lit 4) g4], (kSeq (oSet (xMove q19) p2 
(oSet (xMove q0) p3 
(oSet (xMove q15) p4 
oEnd))) (kSeq (kSeq (oSet (xMove g0) p15 
(oSet (xCall q64 [g15, q15]) p16 
(oSet (xMove g16) p14 
(oSet (xLook (lkExtract (nat_lit 0) g14)) p17 
(oSet (xLook (lkExtract (nat_lit 1) g14)) p18 
(oSet (xMove g17) p5 
(oSet (xMove g18) p6 
oEnd))))))) (kSeq (oSet (xMove g6) p19 
(oSet (xLook (lkEq false .int g19 q26)) p20 
oEnd)) (kCond g20 (kSeq (oSet (xMove g6) p21 
(oSet (xMove q19) p2 
(oSet (xMove q0) p3 
(oSet (xMove g21) p4 
oEnd)))) kRet) kSkip))) (kSeq (kSeq (oSet (xMove g0) p22 
(oSet (xCall q65 [g22]) p23 
(oSet (xLook (lkBin .lss g23 q18)) p24 
oEnd))) (kCond g24 (kSeq (oSet (xMove q19) p2 
(oSet (xMove q0) p3 
(oSet (xMove q67) p4 
oEnd))) kRet) kSkip)) (kSeq (oSet (xMove q0) p7 
oEnd) (kSeq (oSet (xMove q19) p8 
oEnd) (kSeq (kSeq (oSet (xMove q15) p25 
oEnd) (kBlock (nat_lit 0) (kLoop (kSeq (oSet (xLook (lkBin .lss g25 q18)) p26 
oEnd) (kSeq (kCond g26 kSkip (kExit (nat_lit 0))) (kSeq (kBlock (nat_lit 1) (kSeq (oSet (xMove g25) p27 
(oSet (xMove g27) p9 
oEnd)) (kSeq (oSet (xMove g0) p29 
(oSet (xMove g9) p30 
(oSet (xCall q64 [g29, g30]) p31 
(oSet (xMove g31) p28 
(oSet (xLook (lkExtract (nat_lit 0) g28)) p32 
(oSet (xLook (lkExtract (nat_lit 1) g28)) p33 
(oSet (xMove g32) p10 
(oSet (xMove g33) p11 
oEnd)))))))) (kSeq (kSeq (oSet (xMove g11) p34 
(oSet (xLook (lkEq true .int g34 q15)) p35 
oEnd)) (kCond g35 (kSeq (oSet (xMove g11) p36 
(oSet (xMove q19) p2 
(oSet (xMove q0) p3 
(oSet (xMove g36) p4 
oEnd)))) kRet) kSkip)) (kSeq (oSet (xMove g7) p37 
(oSet (xMove g37) p38 
(oSetIf (wantF g38) (xMove g10) p39 
(oSetIf (wantF g38) (xTurn (tnMkSlice q10 q118 q118)) p40 
(oSetIf (wantF g38) (xCall q124 [g39, g40]) p41 
(oSet (xLook (lkPick g38 q13 g41)) p42 
(oSet (xMove g42) p7 
oEnd))))))) (kSeq (oSet (xMove g10) p44 
(oSet (xCall q166 [g44]) p45 
(oSet (xMove g45) p43 
(oSet (xLook (lkExtract (nat_lit 0) g43)) p46 
(oSet (xLook (lkExtract (nat_lit 1) g43)) p47 
(oSet (xTurn (tnAlloc q70)) p12 
(oDo (xTurn (tnStore (nat_lit 35) g12 g46)) 
(oSet (xMove g47) p13 
oEnd)))))))) (kSeq (oSet (xMove g13) p48 
oEnd) (kCond g48 (oSet (xMove g8) p49 
(oSet (xTurn (tnBuildSlice q167 [((nat_lit 0), (nat_lit 1), g12)] (nat_lit 1))) p50 
(oSet (xTurn (tnAppend (nat_lit 1) g49 g50)) p51 
(oSet (xMove g51) p8 
oEnd)))) (oSet (xMove g8) p52 
(oSet (xTurn (tnBuildSlice q167 [((nat_lit 0), (nat_lit 1), q4)] (nat_lit 1))) p53 
(oSet (xTurn (tnAppend (nat_lit 1) g52 g53)) p54 
(oSet (xMove g54) p8 
oEnd)))))))))))) (oSet (xLook (lkBin .add g25 q26)) p55 
(oSet (xMove g55) p25 
oEnd)))))))) (kSeq (oSet (xMove g8) p56 
(oSet (xMove g7) p57 
(oSet (xMove g56) p2 
(oSet (xMove g57) p3 
(oSet (xMove q15) p4 
oEnd))))) kRet)))))))⟩
noncomputable def k66d0 : KD := 
(dLook (nat_lit 19) [] [] (lkPick g15 g31 q0) p32 (dEnd [(nat_lit 13), (nat_lit 14), (nat_lit 15), (nat_lit 16), (nat_lit 17), (nat_lit 18), (nat_lit 19), (nat_lit 20), (nat_lit 21), (nat_lit 22), (nat_lit 23), (nat_lit 24), (nat_lit 25), (nat_lit 26), (nat_lit 27), (nat_lit 28), (nat_lit 29), (nat_lit 30), (nat_lit 31), (nat_lit 32)]))
noncomputable def k66d1 : KD := 
(dIf [] (wantT g15) p31 (dLook (nat_lit 18) [] [] (lkPick g18 q13 g30) p31 k66d0) k66d0)
noncomputable def k66d2 : KD := 
(dIf [] (wantF g18) p30 (dLook (nat_lit 17) [] [] (lkBin .gtr g22 g29) p30 k66d1) k66d1)
noncomputable def k66d3 : KD := 
(dIf [] (wantF g18) p29 (dLook (nat_lit 16) [] [] (lkLoad1 g28) p29 k66d2) k66d2)
noncomputable def k66d4 : KD := 
(dIf [] (wantF g18) p28 (dLook (nat_lit 15) [] [] (lkFieldAddr (nat_lit 0) g27) p28 k66d3) k66d3)
noncomputable def k66d5 : KD := 
(dIf [] (wantF g18) p27 (dTurn (nat_lit 14) [] [] false (xNil g26) p27 k66d4) k66d4)
noncomputable def k66d6 : KD := 
(dIf [] (wantF g18) p26 (dLook (nat_lit 13) [] [] (lkLoad1 g25) p26 k66d5) k66d5)
noncomputable def k66d7 : KD := 
(dIf [] (wantF g18) p25 (dLook (nat_lit 12) [] [] (lkIxSl (nat_lit 1) g23 g24) p25 k66d6) k66d6)
noncomputable def k66d8 : KD := 
(dIf [] (wantF g18) p24 (dLook (nat_lit 11) [] [] (lkMove g3) p24 k66d7) k66d7)
noncomputable def k66d9 : KD := 
(dIf [] (wantF g18) p23 (dLook (nat_lit 10) [] [] (lkMove g0) p23 k66d8) k66d8)
noncomputable def k66d10 : KD := 
(dIf [] (wantF g18) p22 (dLook (nat_lit 9) [] [] (lkLoad1 g21) p22 k66d9) k66d9)
noncomputable def k66d11 : KD := 
(dIf [] (wantF g18) p21 (dLook (nat_lit 8) [] [] (lkFieldAddr (nat_lit 0) g20) p21 k66d10) k66d10)
noncomputable def k66d12 : KD := 
(dIf [] (wantF g18) p20 (dTurn (nat_lit 7) [] [] false (xNil g19) p20 k66d11) k66d11)
noncomputable def k66d13 : KD := 
(dIf [] (wantF g18) p19 (dLook (nat_lit 6) [] [] (lkMove g5) p19 k66d12) k66d12)
noncomputable def k66d14 : KD := 
(dIf [] (wantT g15) p18 (dLook (nat_lit 5) [] [] (lkMove g17) p18 k66d13) k66d13)
noncomputable def k66d15 : KD := 
(dIf [] (wantT g15) p17 (dLook (nat_lit 4) [] [] (lkBin .lss g16 q15) p17 k66d14) k66d14)
noncomputable def k66 : KFun := ⟨[rTmp (nat_lit 2) g2], (kSeq (oSet (xMove q15) p2 
oEnd) (kSeq (oSet (xMove q62) p3 
oEnd) (kSeq (kSeq (oSet (xMove g0) p6 
(oSet (xLook (lkLen .sl g6)) p7 
(oSet (xMove q15) p8 
oEnd))) (kBlock (nat_lit 0) (kLoop (kSeq (oSet (xLook (lkBin .lss g8 g7)) p9 
oEnd) (kSeq (kCond g9 kSkip (kExit (nat_lit 0))) (kSeq (kBlock (nat_lit 1) (kSeq (oSet (xMove g8) p10 
(oSet (xLook (lkIxSl (nat_lit 1) g6 g8)) p11 
(oSet (xLook (lkLoad1 g11)) p12 
(oSet (xMove g10) p4 
(oSet (xMove g12) p5 
oEnd))))) (kSeq (kDraw 
(dLook (nat_lit 0) [] [] (lkMove g5) p13 
(dLook (nat_lit 1) [] [] (lkEq true .ptr g13 q4) p14 
(dLook (nat_lit 2) [] [] (lkMove g14) p15 
(dIf [] (wantT g15) p16 (dLook (nat_lit 3) [] [] (lkMove g3) p16 k66d15) k66d15))))) (kCond g32 (oSet (xMove g4) p33 
(oSet (xMove g33) p3 
oEnd)) kSkip)))) (oSet (xLook (lkBin .add g8 q26)) p34 
(oSet (xMove g34) p8 
oEnd)))))))) (kSeq (oSet (xMove g3) p35 
(oSet (xMove g35) p2 
oEnd)) kRet))))⟩
noncomputable def k67 : KFun := ⟨[rTmp (nat_lit 2) g2], (kSeq (oSet (xMove q15) p2 
oEnd) (kSeq (kSeq (oSet (xMove g0) p3 
(oSet (xLook (lkBin .lss g3 q15)) p4 
(oSet (xMove g4) p5 
(oSetIf (wantF g5) (xMove g0) p6 
(oSetIf (wantF g5) (xLook (lkBin .gtr g6 q60)) p7 
(oSet (xLook (lkPick g5 q13 g7)) p8 
oEnd)))))) (kCond g8 (kSeq (oSet (xMove q15) p2 
oEnd) kRet) kSkip)) (kSeq (oSet (xMove g0) p9 
(oSet (xLook (lkBin .add q121 g9)) p10 
(oSet (xLook (lkBin .add g10 q118)) p11 
(oSet (xLook (lkBin .sub g11 q26)) p12 
(oSet (xLook (lkBin .quo g12 q118)) p13 
(oSet (xMove g13) p2 
oEnd)))))) kRet)))⟩
noncomputable def k68 : KFun := ⟨[rTmp (nat_lit 4) g4], (kSeq (oSet (xMove q0) p4 
oEnd) (kSeq (oSet (xMove g0) p5 
(oSet (xLook (lkBytesTo g5)) p6 
(oSet (xMove g1) p7 
(oSet (xLook (lkBytesTo g7)) p8 
(oSet (xLook (lkEq false .str g6 g8)) p9 
(oSet (xMove g9) p4 
oEnd)))))) kRet))⟩
noncomputable def k69 : KFun := ⟨[rTmp (nat_lit 2) g2], (kSeq (oSet (xMove q19) p2 
oEnd) (kSeq (kSeq (oSet (xMove g0) p3 
(oSet (xLook (lkEq false .slice g3 q19)) p4 
oEnd)) (kCond g4 (kSeq (oSet (xMove q19) p2 
oEnd) kRet) kSkip)) (kSeq (oSet (xTurn (tnBuildSlice [] [] (nat_lit 0))) p5 
(oSet (xMove g0) p6 
(oSet (xTurn (tnAppend (nat_lit 1) g5 g6)) p7 
(oSet (xMove g7) p2 
oEnd)))) kRet)))⟩
def q168 : List Value := [(.bool false), (.slice none (nat_lit 0) (nat_lit 0)), (.int .i64 (.ofNat (nat_lit 0))), (.int .i64 (.ofNat (nat_lit 0)))]
def q169 : List Value := [(.bool false), (.slice none (nat_lit 0) (nat_lit 0)), (.int .i64 (.ofNat (nat_lit 0))), (.int .i64 (.ofNat (nat_lit 0))), (.int .i64 (.ofNat (nat_lit 0)))]
noncomputable def k70 : KFun := ⟨[rTmp (nat_lit 2) g2], (kSeq (oSet (xMove q4) p2 
oEnd) (kSeq (oSet (xTurn (tnBuildSlice [] [] (nat_lit 0))) p3 
(oSet (xMove g0) p4 
(oSet (xTurn (tnAppend (nat_lit 1) g3 g4)) p5 
(oSet (xLook (lkBuild q168 [((nat_lit 0), (nat_lit 1), q13), ((nat_lit 1), (nat_lit 1), g5)])) p6 
(oSet (xLook (lkBuild q169 [((nat_lit 0), (nat_lit 4), g6)])) p7 
(oSet (xTurn (tnBox g7)) p8 
(oSet (xMove g8) p2 
oEnd))))))) kRet))⟩
def q170 : List Value := [(.int .i64 (.ofNat (nat_lit 0)))]
def q171 : OpdF := kC (.func (.func (nat_lit 104)) ⟨[]⟩ ⟨[]⟩)
noncomputable def k71 : KFun := ⟨[rTmp (nat_lit 4) g4], (kSeq (oSet (xTurn (tnBox g0)) p2 
(oSet (xTurn (tnBox g1)) p3 
(oSet (xMove q15) p4 
oEnd))) (kSeq (oSet (xTurn (tnAlloc q170)) p5 
(oDo (xTurn (tnStore (nat_lit 1) g5 q15)) 
oEnd)) (kSeq (kSeq (oSet (xLook (lkLoad1 g2)) p6 
(oSet (xLook (lkMkFunc (.func (nat_lit 105)) [] [g2, g3, g5])) p7 
(oSet (xCall q171 [g6, g7]) p8 
(oSet (xLook (lkUn .not g8)) p9 
oEnd)))) (kCond g9 (kSeq (oSet (xMove q15) p4 
oEnd) kRet) kSkip)) (kSeq (oSet (xLook (lkLoad1 g5)) p10 
(oSet (xMove g10) p4 
oEnd)) kRet))))⟩
noncomputable def k73 : KFun := ⟨[rTmp (nat_lit 6) g6], (kSeq (oSet (xTurn (tnBox g0)) p3 
(oSet (xTurn (tnBox g1)) p4 
(oSet (xTurn (tnBox g2)) p5 
(oSet (xMove q15) p6 
oEnd)))) (kSeq (oSet (xTurn (tnAlloc q170)) p7 
(oDo (xTurn (tnStore (nat_lit 1) g7 q15)) 
oEnd)) (kSeq (kSeq (oSet (xLook (lkLoad1 g3)) p8 
(oSet (xLook (lkMkFunc (.func (nat_lit 109)) [] [g3, g4, g5, g7])) p9 
(oSet (xCall q171 [g8, g9]) p10 
(oSet (xLook (lkUn .not g10)) p11 
oEnd)))) (kCond g11 (kSeq (oSet (xMove q15) p6 
oEnd) kRet) kSkip)) (kSeq (oSet (xLook (lkLoad1 g7)) p12 
(oSet (xMove g12) p6 
oEnd)) kRet))))⟩
def q172 : OpdF := kC (.func (.func (nat_lit 110)) ⟨[]⟩ ⟨[]⟩)
noncomputable def k74 : KFun := ⟨[rCellN (nat_lit 2) g2 (nat_lit 2)], (kSeq (oSet (xTurn (tnAlloc q72)) p2 
oEnd) (kSeq (kSeq (oSet (xMove g0) p3 
(oSet (xLook (lkEq false .ptr g3 q4)) p4 
(oSet (xMove g4) p5 
(oSetIf (wantF g5) (xMove g0) p6 
(oSetIf (wantF g5) (xNil g6) p7 
(oSetIf (wantF g5) (xLook (lkFieldAddr (nat_lit 0) g7)) p8 
(oSetIf (wantF g5) (xCall q172 [g8]) p9 
(oSet (xLook (lkPick g5 q13 g9)) p10 
oEnd)))))))) (kCond g10 (kSeq (oSet (xLook (lkBuild q72 [((nat_lit 0), (nat_lit 1), q26)])) p11 
(oDo (xTurn (tnStore (nat_lit 2) g2 g11)) 
oEnd)) kRet) kSkip)) (kSeq (oSet (xMove g0) p12 
(oSet (xNil g12) p13 
(oSet (xLook (lkFieldAddr (nat_lit 0) g13)) p14 
(oSet (xLook (lkFieldAddr (nat_lit 2) g14)) p15 
(oSet (xLook (lkLoadN (nat_lit 2) g15)) p16 
(oDo (xTurn (tnStore (nat_lit 2) g2 g16)) 
oEnd)))))) kRet)))⟩
def q173 : OpdF := kC (.func (.func (nat_lit 111)) ⟨[]⟩ ⟨[]⟩)
noncomputable def k75 : KFun := ⟨[rCellN (nat_lit 2) g2 (nat_lit 2)], (kSeq (oSet (xTurn (tnAlloc q72)) p2 
oEnd) (kSeq (oSet (xMove g0) p4 
(oSet (xCall q131 [g4]) p5 
(oSet (xTurn (tnAlloc q72)) p3 
(oDo (xTurn (tnStore (nat_lit 2) g3 g5)) 
oEnd)))) (kSeq (kSeq (oSet (xLook (lkFieldAddr (nat_lit 0) g3)) p6 
(oSet (xLook (lkLoad1 g6)) p7 
(oSet (xLook (lkEq false .int g7 q15)) p8 
(oSet (xMove g8) p9 
(oSetIf (wantT g9) (xMove g0) p10 
(oSetIf (wantT g9) (xCall q173 [g10]) p11 
(oSetIf (wantT g9) (xLook (lkBin .gtr g11 q15)) p12 
(oSet (xLook (lkPick g9 g12 q0)) p13 
oEnd)))))))) (kCond g13 (oSet (xMove g0) p14 
(oSet (xNil g14) p15 
(oSet (xLook (lkFieldAddr (nat_lit 4) g15)) p16 
(oSet (xLook (lkLoad1 g16)) p17 
(oSet (xLook (lkBuild q72 [((nat_lit 0), (nat_lit 1), q66), ((nat_lit 1), (nat_lit 1), g17)])) p18 
(oDo (xTurn (tnStore (nat_lit 2) g3 g18)) 
oEnd)))))) kSkip)) (kSeq (oSet (xLook (lkLoadN (nat_lit 2) g3)) p19 
(oDo (xTurn (tnStore (nat_lit 2) g2 g19)) 
oEnd)) kRet))))⟩
noncomputable def k77d0 : KD := 
(dLook (nat_lit 16) [] [(nat_lit 6), (nat_lit 14)] (lkPick g28 q13 g34) p35 
(dLook (nat_lit 17) [] [(nat_lit 6), (nat_lit 14)] (lkMove g35) p4 (dEnd [(nat_lit 19), (nat_lit 20), (nat_lit 21), (nat_lit 22), (nat_lit 23), (nat_lit 24), (nat_lit 25), (nat_lit 26), (nat_lit 27), (nat_lit 28), (nat_lit 29), (nat_lit 30), (nat_lit 31), (nat_lit 32), (nat_lit 33), (nat_lit 34), (nat_lit 35), (nat_lit 4)])))
noncomputable def k77d1 : KD := 
(dIf [(nat_lit 6), (nat_lit 14)] (wantF g28) p34 (dLook (nat_lit 15) [] [(nat_lit 6), (nat_lit 14)] (lkBin .geq g33 q15) p34 k77d0) k77d0)
noncomputable def k77d2 : KD := 
(dIf [(nat_lit 6)] (wantF g28) p33 (dTurn (nat_lit 14) [] [(nat_lit 6)] true (xCall q135 [g31, g32]) p33 k77d1) k77d1)
noncomputable def k77d3 : KD := 
(dIf [(nat_lit 6)] (wantF g28) p32 (dLook (nat_lit 13) [] [(nat_lit 6)] (lkLoadN (nat_lit 32) g3) p32 k77d2) k77d2)
noncomputable def k77d4 : KD := 
(dIf [(nat_lit 6)] (wantF g28) p31 (dLook (nat_lit 12) [] [(nat_lit 6)] (lkFieldAddr (nat_lit 0) g30) p31 k77d3) k77d3)
noncomputable def k77d5 : KD := 
(dIf [(nat_lit 6)] (wantF g28) p30 (dTurn (nat_lit 11) [] [(nat_lit 6)] false (xNil g29) p30 k77d4) k77d4)
noncomputable def k77d6 : KD := 
(dLook (nat_lit 8) [] [(nat_lit 6)] (lkPick g20 g26 q0) p27 
(dLook (nat_lit 9) [] [(nat_lit 6)] (lkMove g27) p28 
(dIf [(nat_lit 6)] (wantF g28) p29 (dLook (nat_lit 10) [] [(nat_lit 6)] (lkMove g0) p29 k77d5) k77d5)))
noncomputable def k77d7 : KD := 
(dIf [(nat_lit 6)] (wantT g20) p26 (dLook (nat_lit 7) [] [(nat_lit 6)] (lkUn .not g25) p26 k77d6) k77d6)
noncomputable def k77d8 : KD := 
(dIf [] (wantT g20) p25 (dTurn (nat_lit 6) [] [] true (xCall q97 [g23, g24]) p25 k77d7) k77d7)
noncomputable def k77d9 : KD := 
(dIf [] (wantT g20) p24 (dLook (nat_lit 5) [] [] (lkLoadN (nat_lit 32) g3) p24 k77d8) k77d8)
noncomputable def k77d10 : KD := 
(dIf [] (wantT g20) p23 (dLook (nat_lit 4) [] [] (lkFieldAddr (nat_lit 0) g22) p23 k77d9) k77d9)
noncomputable def k77d11 : KD := 
(dIf [] (wantT g20) p22 (dTurn (nat_lit 3) [] [] false (xNil g21) p22 k77d10) k77d10)
noncomputable def k77 : KFun := ⟨[rTmp (nat_lit 4) g4], (kSeq (oSet (xTurn (tnBox g1)) p3 
(oSet (xMove q0) p4 
oEnd)) (kSeq (kSeq (oSet (xMove g0) p7 
(oSet (xCall q39 [g7]) p8 
(oSet (xLook (lkEq true .int g8 q15)) p9 
oEnd))) (kCond g9 (kSeq (oSet (xMove q0) p4 
oEnd) kRet) kSkip)) (kSeq (kDraw 
(dLook (nat_lit 0) [] [] (lkMove g0) p11 
(dTurn (nat_lit 1) [] [] false (xNil g11) p12 
(dLook (nat_lit 2) [] [] (lkFieldAddr (nat_lit 38) g12) p13 
(dLook (nat_lit 3) [] [] (lkLoad1 g13) p14 
(dLook (nat_lit 4) [] [] (lkLoadN (nat_lit 32) g3) p15 
(dLook (nat_lit 5) [] [] (lkLookup (.many (nat_lit 32) .u8) (.agg ⟨[(.int .i64 (.ofNat (nat_lit 0))), (.int .i64 (.ofNat (nat_lit 0)))]⟩) true g14 g15) p16 
(dLook (nat_lit 6) [] [] (lkMove g16) p10 
(dLook (nat_lit 7) [] [] (lkExtract (nat_lit 0) g10) p17 
(dLook (nat_lit 8) [] [] (lkExtract (nat_lit 1) g10) p18 
(dTurn (nat_lit 9) [] [] false (xTurn (tnAlloc q72)) p5 
(dTurn (nat_lit 10) [] [] true (xTurn (tnStore (nat_lit 2) g5 g17)) noDst 
(dLook (nat_lit 11) [] [(nat_lit 10)] (lkMove g18) p6 (dEnd [(nat_lit 11), (nat_lit 12), (nat_lit 13), (nat_lit 14), (nat_lit 15), (nat_lit 16), (nat_lit 10), (nat_lit 17), (nat_lit 18), (nat_lit 5), (nat_lit 6)])))))))))))))) (kSeq (kDraw 
(dLook (nat_lit 0) [] [] (lkMove g6) p19 
(dLook (nat_lit 1) [] [] (lkMove g19) p20 
(dIf [] (wantT g20) p21 (dLook (nat_lit 2) [] [] (lkMove g0) p21 k77d11) k77d11)))) kRet))))⟩
def q176 : OpdF := kC (.func (.func (nat_lit 114)) ⟨[]⟩ ⟨[]⟩)
noncomputable def k78 : KFun := ⟨[rTmp (nat_lit 4) g4], (kSeq (oSet (xTurn (tnBox g1)) p3 
(oSet (xMove q15) p4 
oEnd)) (kSeq (oSet (xMove g0) p5 
(oSet (xNil g5) p6 
(oSet (xLook (lkFieldAddr (nat_lit 0) g6)) p7 
(oSet (xLook (lkLoad1 g7)) p8 
(oSet (xLook (lkMkFunc (.func (nat_lit 115)) [] [g3])) p9 
(oSet (xCall q176 [g8, g9]) p10 
(oSet (xMove g10) p4 
oEnd))))))) kRet))⟩
def q177 : List Value := [(.int .u32 (.ofNat (nat_lit 0))), (.int .u32 (.ofNat (nat_lit 0))), (.int .u32 (.ofNat (nat_lit 0))), (.int .u32 (.ofNat (nat_lit 0))), (.int .u32 (.ofNat (nat_lit 0))), (.int .u32 (.ofNat (nat_lit 0))), (.int .u32 (.ofNat (nat_lit 0))), (.int .u32 (.ofNat (nat_lit 0)))]
def q178 : OpdF := kC (.int .u32 (.ofNat (nat_lit 1779033703)))
def q179 : OpdF := kC (.int .u32 (.ofNat (nat_lit 3144134277)))
def q180 : OpdF := kC (.int .u32 (.ofNat (nat_lit 1013904242)))
def q181 : OpdF := kC (.int .u32 (.ofNat (nat_lit 2773480762)))
def q182 : OpdF := kC (.int .u32 (.ofNat (nat_lit 1359893119)))
def q183 : OpdF := kC (.int .u32 (.ofNat (nat_lit 2600822924)))
def q184 : OpdF := kC (.int .u32 (.ofNat (nat_lit 528734635)))
def q185 : OpdF := kC (.int .u32 (.ofNat (nat_lit 1541459225)))
noncomputable def k79 : KFun := ⟨[rCellN (nat_lit 0) g0 (nat_lit 8)], (kSeq (oSet (xTurn (tnAlloc q177)) p0 
oEnd) (kSeq (oSet (xLook (lkBuild q177 [((nat_lit 0), (nat_lit 1), q178), ((nat_lit 1), (nat_lit 1), q179), ((nat_lit 2), (nat_lit 1), q180), ((nat_lit 3), (nat_lit 1), q181), ((nat_lit 4), (nat_lit 1), q182), ((nat_lit 5), (nat_lit 1), q183), ((nat_lit 6), (nat_lit 1), q184), ((nat_lit 7), (nat_lit 1), q185)])) p1 
(oDo (xTurn (tnStore (nat_lit 8) g0 g1)) 
oEnd)) kRet))⟩
noncomputable def k80 : KFun := ⟨[rTmp (nat_lit 2) g2], (kSeq (oSet (xMove q0) p2 
oEnd) (kSeq (oSet (xMove g0) p3 
(oSet (xLook (lkEq false .ptr g3 q4)) p4 
(oSet (xMove g4) p5 
(oSetIf (wantF g5) (xMove g0) p6 
(oSetIf (wantF g5) (xNil g6) p7 
(oSetIf (wantF g5) (xLook (lkFieldAddr (nat_lit 0) g7)) p8 
(oSetIf (wantF g5) (xLook (lkLoad1 g8)) p9 
(oSetIf (wantF g5) (xLook (lkUn .not g9)) p10 
(oSet (xLook (lkPick g5 q13 g10)) p11 
(oSet (xMove g11) p2 
oEnd)))))))))) kRet))⟩
def q186 : List Value := [(.int .u32 (.ofNat (nat_lit 0))), (.int .u32 (.ofNat (nat_lit 0))), (.int .u32 (.ofNat (nat_lit 0))), (.int .u32 (.ofNat (nat_lit 0))), (.int .u32 (.ofNat (nat_lit 0))), (.int .u32 (.ofNat (nat_lit 0))), (.int .u32 (.ofNat (nat_lit 0))), (.int .u32 (.ofNat (nat_lit 0))), (.int .u32 (.ofNat (nat_lit 0))), (.int .u32 (.ofNat (nat_lit 0))), (.int .u32 (.ofNat (nat_lit 0))), (.int .u32 (.ofNat (nat_lit 0))), (.int .u32 (.ofNat (nat_lit 0))), (.int .u32 (.ofNat (nat_lit 0))), (.int .u32 (.ofNat (nat_lit 0))), (.int .u32 (.ofNat (nat_lit 0))), (.int .u32 (.ofNat (nat_lit 0))), (.int .u32 (.ofNat (nat_lit 0))), (.int .u32 (.ofNat (nat_lit 0))), (.int .u32 (.ofNat (nat_lit 0))), (.int .u32 (.ofNat (nat_lit 0))), (.int .u32 (.ofNat (nat_lit 0))), (.int .u32 (.ofNat (nat_lit 0))), (.int .u32 (.ofNat (nat_lit 0))), (.int .u32 (.ofNat (nat_lit 0))), (.int .u32 (.ofNat (nat_lit 0))), (.int .u32 (.ofNat (nat_lit 0))), (.int .u32 (.ofNat (nat_lit 0))), (.int .u32 (.ofNat (nat_lit 0))), (.int .u32 (.ofNat (nat_lit 0))), (.int .u32 (.ofNat (nat_lit 0))), (.int .u32 (.ofNat (nat_lit 0))), (.int .u32 (.ofNat (nat_lit 0))), (.int .u32 (.ofNat (nat_lit 0))), (.int .u32 (.ofNat (nat_lit 0))), (.int .u32 (.ofNat (nat_lit 0))), (.int .u32 (.ofNat (nat_lit 0))), (.int .u32 (.ofNat (nat_lit 0))), (.int .u32 (.ofNat (nat_lit 0))), (.int .u32 (.ofNat (nat_lit 0))), (.int .u32 (.ofNat (nat_lit 0))), (.int .u32 (.ofNat (nat_lit 0))), (.int .u32 (.ofNat (nat_lit 0))), (.int .u32 (.ofNat (nat_lit 0))), (.int .u32 (.ofNat (nat_lit 0))), (.int .u32 (.ofNat (nat_lit 0))), (.int .u32 (.ofNat (nat_lit 0))), (.int .u32 (.ofNat (nat_lit 0))), (.int .u32 (.ofNat (nat_lit 0))), (.int .u32 (.ofNat (nat_lit 0))), (.int .u32 (.ofNat (nat_lit 0))), (.int .u32 (.ofNat (nat_lit 0))), (.int .u32 (.ofNat (nat_lit 0))), (.int .u32 (.ofNat (nat_lit 0))), (.int .u32 (.ofNat (nat_lit 0))), (.int .u32 (.ofNat (nat_lit 0))), (.int .u32 (.ofNat (nat_lit 0))), (.int .u32 (.ofNat (nat_lit 0))), (.int .u32 (.ofNat (nat_lit 0))), (.int .u32 (.ofNat (nat_lit 0))), (.int .u32 (.ofNat (nat_lit 0))), (.int .u32 (.ofNat (nat_lit 0))), (.int .u32 (.ofNat (nat_lit 0))), (.int .u32 (.ofNat (nat_lit 0)))]
def q187 : OpdF := kC (.int .i64 (.ofNat (nat_lit 16)))
def q188 : OpdF := kC (.int .u64 (.ofNat (nat_lit 16)))
def q189 : OpdF := kC (.int .u64 (.ofNat (nat_lit 24)))
def q190 : OpdF := kC (.int .i64 (.ofNat (nat_lit 15)))
def q191 : OpdF := kC (.int .u64 (.ofNat (nat_lit 10)))
def q192 : OpdF := kC (.func (.func (nat_lit 116)) ⟨[]⟩ ⟨[]⟩)
def q193 : OpdF := kC (.int .i64 (.ofNat (nat_lit 19)))
def q194 : OpdF := kC (.int .i64 (.ofNat (nat_lit 17)))
def q195 : OpdF := kC (.int .i64 (.ofNat (nat_lit 7)))
def q196 : OpdF := kC (.int .u64 (.ofNat (nat_lit 3)))
def q197 : OpdF := kC (.int .i64 (.ofNat (nat_lit 18)))
def q198 : OpdF := kC (.func (.func (nat_lit 117)) ⟨[]⟩ ⟨[]⟩)
def q199 : OpdF := kC (.int .i64 (.ofNat (nat_lit 25)))
def q200 : OpdF := kC (.int .i64 (.ofNat (nat_lit 13)))
def q201 : OpdF := kC (.int .i64 (.ofNat (nat_lit 22)))
noncomputable def k81 : KFun := ⟨[rCellN (nat_lit 4) g4 (nat_lit 8)], (kSeq (oSet (xTurn (tnBox g0)) p2 
(oSet (xTurn (tnAlloc q177)) p4 
oEnd)) (kSeq (oSet (xTurn (tnAlloc q186)) p5 
oEnd) (kSeq (kSeq (oSet (xMove q15) p23 
oEnd) (kBlock (nat_lit 0) (kLoop (kSeq (oSet (xLook (lkBin .lss g23 q187)) p24 
oEnd) (kSeq (kCond g24 kSkip (kExit (nat_lit 0))) (kSeq (kBlock (nat_lit 1) (kSeq (oSet (xMove g23) p25 
(oSet (xMove g25) p6 
oEnd)) (kDraw 
(dLook (nat_lit 0) [] [] (lkMove g6) p26 
(dLook (nat_lit 1) [] [] (lkMove g1) p27 
(dLook (nat_lit 2) [] [] (lkMove g6) p28 
(dLook (nat_lit 3) [] [] (lkBin .mul q66 g28) p29 
(dLook (nat_lit 4) [] [] (lkIxSl (nat_lit 1) g27 g29) p30 
(dLook (nat_lit 5) [] [] (lkLoad1 g30) p31 
(dLook (nat_lit 6) [] [] (lkIntTo .u32 g31) p32 
(dLook (nat_lit 7) [] [] (lkBin .shl g32 q189) p33 
(dLook (nat_lit 8) [] [] (lkMove g1) p34 
(dLook (nat_lit 9) [] [] (lkMove g6) p35 
(dLook (nat_lit 10) [] [] (lkBin .mul q66 g35) p36 
(dLook (nat_lit 11) [] [] (lkBin .add g36 q26) p37 
(dLook (nat_lit 12) [] [] (lkIxSl (nat_lit 1) g34 g37) p38 
(dLook (nat_lit 13) [] [] (lkLoad1 g38) p39 
(dLook (nat_lit 14) [] [] (lkIntTo .u32 g39) p40 
(dLook (nat_lit 15) [] [] (lkBin .shl g40 q188) p41 
(dLook (nat_lit 16) [] [] (lkBin .or g33 g41) p42 
(dLook (nat_lit 17) [] [] (lkMove g1) p43 
(dLook (nat_lit 18) [] [] (lkMove g6) p44 
(dLook (nat_lit 19) [] [] (lkBin .mul q66 g44) p45 
(dLook (nat_lit 20) [] [] (lkBin .add g45 q18) p46 
(dLook (nat_lit 21) [] [] (lkIxSl (nat_lit 1) g43 g46) p47 
(dLook (nat_lit 22) [] [] (lkLoad1 g47) p48 
(dLook (nat_lit 23) [] [] (lkIntTo .u32 g48) p49 
(dLook (nat_lit 24) [] [] (lkBin .shl g49 q119) p50 
(dLook (nat_lit 25) [] [] (lkBin .or g42 g50) p51 
(dLook (nat_lit 26) [] [] (lkMove g1) p52 
(dLook (nat_lit 27) [] [] (lkMove g6) p53 
(dLook (nat_lit 28) [] [] (lkBin .mul q66 g53) p54 
(dLook (nat_lit 29) [] [] (lkBin .add g54 q2) p55 
(dLook (nat_lit 30) [] [] (lkIxSl (nat_lit 1) g52 g55) p56 
(dLook (nat_lit 31) [] [] (lkLoad1 g56) p57 
(dLook (nat_lit 32) [] [] (lkIntTo .u32 g57) p58 
(dLook (nat_lit 33) [] [] (lkBin .or g51 g58) p59 
(dLook (nat_lit 34) [] [] (lkIxArr (nat_lit 64) (nat_lit 1) g5 g26) p60 
(dTurn (nat_lit 35) [] [] true (xTurn (tnStore (nat_lit 1) g60 g59)) noDst (dEnd [(nat_lit 26), (nat_lit 27), (nat_lit 28), (nat_lit 29), (nat_lit 30), (nat_lit 31), (nat_lit 32), (nat_lit 33), (nat_lit 34), (nat_lit 35), (nat_lit 36), (nat_lit 37), (nat_lit 38), (nat_lit 39), (nat_lit 40), (nat_lit 41), (nat_lit 42), (nat_lit 43), (nat_lit 44), (nat_lit 45), (nat_lit 46), (nat_lit 47), (nat_lit 48), (nat_lit 49), (nat_lit 50), (nat_lit 51), (nat_lit 52), (nat_lit 53), (nat_lit 54), (nat_lit 55), (nat_lit 56), (nat_lit 57), (nat_lit 58), (nat_lit 59), (nat_lit 60)])))))))))))))))))))))))))))))))))))))))) (oSet (xLook (lkBin .add g23 q26)) p61 
(oSet (xMove g61) p23 
oEnd)))))))) (kSeq (kSeq (oSet (xMove q187) p7 
oEnd) (kBlock (nat_lit 2) (kLoop (kSeq (kSeq (oSet (xMove g7) p62 
(oSet (xLook (lkBin .lss g62 q118)) p63 
oEnd)) (kCond g63 kSkip (kExit (nat_lit 2)))) (kSeq (kBlock (nat_lit 3) (kSeq (kDraw 
(dLook (nat_lit 0) [] [] (lkMove g7) p66 
(dLook (nat_lit 1) [] [] (lkBin .sub g66 q190) p67 
(dLook (nat_lit 2) [] [] (lkIxArr (nat_lit 64) (nat_lit 1) g5 g67) p68 
(dLook (nat_lit 3) [] [] (lkLoad1 g68) p69 
(dLook (nat_lit 4) [] [] (lkMove g7) p70 
(dLook (nat_lit 5) [] [] (lkBin .sub g70 q18) p71 
(dLook (nat_lit 6) [] [] (lkIxArr (nat_lit 64) (nat_lit 1) g5 g71) p72 
(dLook (nat_lit 7) [] [] (lkLoad1 g72) p73 
(dLook (nat_lit 8) [] [] (lkMove g69) p8 
(dLook (nat_lit 9) [] [] (lkMove g73) p9 (dEnd [(nat_lit 66), (nat_lit 67), (nat_lit 68), (nat_lit 69), (nat_lit 70), (nat_lit 71), (nat_lit 72), (nat_lit 73), (nat_lit 8), (nat_lit 9)])))))))))))) (kDraw 
(dLook (nat_lit 0) [] [] (lkMove g7) p74 
(dLook (nat_lit 1) [] [] (lkMove g7) p75 
(dLook (nat_lit 2) [] [] (lkBin .sub g75 q187) p76 
(dLook (nat_lit 3) [] [] (lkIxArr (nat_lit 64) (nat_lit 1) g5 g76) p77 
(dLook (nat_lit 4) [] [] (lkLoad1 g77) p78 
(dLook (nat_lit 5) [] [] (lkMove g8) p79 
(dTurn (nat_lit 6) [(nat_lit 4)] [] true (xCall q192 [g79, q195]) p80 
(dLook (nat_lit 7) [] [] (lkMove g8) p81 
(dTurn (nat_lit 8) [(nat_lit 4)] [(nat_lit 6)] true (xCall q192 [g81, q197]) p82 
(dLook (nat_lit 9) [] [(nat_lit 6), (nat_lit 8)] (lkBin .xor g80 g82) p83 
(dLook (nat_lit 10) [] [] (lkMove g8) p84 
(dLook (nat_lit 11) [] [] (lkBin .shr g84 q196) p85 
(dLook (nat_lit 12) [] [(nat_lit 6), (nat_lit 8)] (lkBin .xor g83 g85) p86 
(dLook (nat_lit 13) [] [(nat_lit 6), (nat_lit 8)] (lkBin .add g78 g86) p87 
(dLook (nat_lit 14) [] [] (lkMove g7) p88 
(dLook (nat_lit 15) [] [] (lkBin .sub g88 q195) p89 
(dLook (nat_lit 16) [] [] (lkIxArr (nat_lit 64) (nat_lit 1) g5 g89) p90 
(dLook (nat_lit 17) [(nat_lit 6), (nat_lit 8)] [] (lkLoad1 g90) p91 
(dLook (nat_lit 18) [] [(nat_lit 6), (nat_lit 8)] (lkBin .add g87 g91) p92 
(dLook (nat_lit 19) [] [] (lkMove g9) p93 
(dTurn (nat_lit 20) [(nat_lit 4), (nat_lit 17)] [(nat_lit 6), (nat_lit 8)] true (xCall q192 [g93, q194]) p94 
(dLook (nat_lit 21) [] [] (lkMove g9) p95 
(dTurn (nat_lit 22) [(nat_lit 4), (nat_lit 17)] [(nat_lit 6), (nat_lit 8), (nat_lit 20)] true (xCall q192 [g95, q193]) p96 
(dLook (nat_lit 23) [] [(nat_lit 6), (nat_lit 8), (nat_lit 20), (nat_lit 22)] (lkBin .xor g94 g96) p97 
(dLook (nat_lit 24) [] [] (lkMove g9) p98 
(dLook (nat_lit 25) [] [] (lkBin .shr g98 q191) p99 
(dLook (nat_lit 26) [] [(nat_lit 6), (nat_lit 8), (nat_lit 20), (nat_lit 22)] (lkBin .xor g97 g99) p100 
(dLook (nat_lit 27) [] [(nat_lit 6), (nat_lit 8), (nat_lit 20), (nat_lit 22)] (lkBin .add g92 g100) p101 
(dLook (nat_lit 28) [] [(nat_lit 6), (nat_lit 8), (nat_lit 20), (nat_lit 22)] (lkIxArr (nat_lit 64) (nat_lit 1) g5 g74) p102 
(dTurn (nat_lit 29) [] [(nat_lit 6), (nat_lit 8), (nat_lit 20), (nat_lit 22)] true (xTurn (tnStore (nat_lit 1) g102 g101)) noDst (dEnd [(nat_lit 74), (nat_lit 75), (nat_lit 76), (nat_lit 77), (nat_lit 78), (nat_lit 79), (nat_lit 80), (nat_lit 81), (nat_lit 82), (nat_lit 83), (nat_lit 84), (nat_lit 85), (nat_lit 86), (nat_lit 87), (nat_lit 88), (nat_lit 89), (nat_lit 90), (nat_lit 91), (nat_lit 92), (nat_lit 93), (nat_lit 94), (nat_lit 95), (nat_lit 96), (nat_lit 97), (nat_lit 98), (nat_lit 99), (nat_lit 100), (nat_lit 101), (nat_lit 102)])))))))))))))))))))))))))))))))))) (oSet (xMove g7) p64 
(oSet (xLook (lkBin .add g64 q26)) p65 
(oSet (xMove g65) p7 
oEnd)))))))) (kSeq (oSet (xLook (lkLoadN (nat_lit 8) g2)) p103 
(oSet (xTurn (tnAlloc q177)) p10 
(oDo (xTurn (tnStore (nat_lit 8) g10 g103)) 
oEnd))) (kSeq (kSeq (oSet (xCall q198 []) p104 
(oSet (xMove q15) p105 
oEnd)) (kBlock (nat_lit 4) (kLoop (kSeq (oSet (xLook (lkBin .lss g105 q118)) p106 
oEnd) (kSeq (kCond g106 kSkip (kExit (nat_lit 4))) (kSeq (kBlock (nat_lit 5) (kSeq (oSet (xMove g105) p107 
(oSet (xLook (lkIxVal1 (nat_lit 64) g104 g105)) p108 
(oSet (xMove g107) p11 
(oSet (xMove g108) p12 
oEnd)))) (kSeq (kDraw 
(dLook (nat_lit 0) [] [] (lkIxArr (nat_lit 8) (nat_lit 1) g10 q15) p109 
(dLook (nat_lit 1) [] [] (lkLoad1 g109) p110 
(dLook (nat_lit 2) [] [] (lkIxArr (nat_lit 8) (nat_lit 1) g10 q26) p111 
(dLook (nat_lit 3) [] [] (lkLoad1 g111) p112 
(dLook (nat_lit 4) [] [] (lkIxArr (nat_lit 8) (nat_lit 1) g10 q18) p113 
(dLook (nat_lit 5) [] [] (lkLoad1 g113) p114 
(dLook (nat_lit 6) [] [] (lkIxArr (nat_lit 8) (nat_lit 1) g10 q66) p115 
(dLook (nat_lit 7) [] [] (lkLoad1 g115) p116 
(dLook (nat_lit 8) [] [] (lkIxArr (nat_lit 8) (nat_lit 1) g10 q44) p117 
(dLook (nat_lit 9) [] [] (lkLoad1 g117) p118 
(dLook (nat_lit 10) [] [] (lkIxArr (nat_lit 8) (nat_lit 1) g10 q71) p119 
(dLook (nat_lit 11) [] [] (lkLoad1 g119) p120 
(dLook (nat_lit 12) [] [] (lkIxArr (nat_lit 8) (nat_lit 1) g10 q195) p121 
(dLook (nat_lit 13) [] [] (lkLoad1 g121) p122 
(dLook (nat_lit 14) [] [] (lkMove g110) p13 
(dLook (nat_lit 15) [] [] (lkMove g112) p14 
(dLook (nat_lit 16) [] [] (lkMove g114) p15 
(dLook (nat_lit 17) [] [] (lkMove g116) p16 
(dLook (nat_lit 18) [] [] (lkMove g118) p17 
(dLook (nat_lit 19) [] [] (lkMove g120) p18 
(dLook (nat_lit 20) [] [] (lkMove g122) p19 (dEnd [(nat_lit 109), (nat_lit 110), (nat_lit 111), (nat_lit 112), (nat_lit 113), (nat_lit 114), (nat_lit 115), (nat_lit 116), (nat_lit 117), (nat_lit 118), (nat_lit 119), (nat_lit 120), (nat_lit 121), (nat_lit 122), (nat_lit 13), (nat_lit 14), (nat_lit 15), (nat_lit 16), (nat_lit 17), (nat_lit 18), (nat_lit 19)]))))))))))))))))))))))) (kSeq (kDraw 
(dLook (nat_lit 0) [] [] (lkMove g19) p123 
(dLook (nat_lit 1) [] [] (lkMove g16) p124 
(dTurn (nat_lit 2) [] [] true (xCall q192 [g124, q71]) p125 
(dLook (nat_lit 3) [] [] (lkMove g16) p126 
(dTurn (nat_lit 4) [] [(nat_lit 2)] true (xCall q192 [g126, q74]) p127 
(dLook (nat_lit 5) [] [(nat_lit 2), (nat_lit 4)] (lkBin .xor g125 g127) p128 
(dLook (nat_lit 6) [] [] (lkMove g16) p129 
(dTurn (nat_lit 7) [] [(nat_lit 2), (nat_lit 4)] true (xCall q192 [g129, q199]) p130 
(dLook (nat_lit 8) [] [(nat_lit 2), (nat_lit 4), (nat_lit 7)] (lkBin .xor g128 g130) p131 
(dLook (nat_lit 9) [] [(nat_lit 2), (nat_lit 4), (nat_lit 7)] (lkBin .add g123 g131) p132 
(dLook (nat_lit 10) [] [] (lkMove g16) p133 
(dLook (nat_lit 11) [] [] (lkMove g17) p134 
(dLook (nat_lit 12) [] [] (lkBin .and g133 g134) p135 
(dLook (nat_lit 13) [] [] (lkMove g16) p136 
(dLook (nat_lit 14) [] [] (lkUn .xor g136) p137 
(dLook (nat_lit 15) [] [] (lkMove g18) p138 
(dLook (nat_lit 16) [] [] (lkBin .and g137 g138) p139 
(dLook (nat_lit 17) [] [] (lkBin .xor g135 g139) p140 
(dLook (nat_lit 18) [] [(nat_lit 2), (nat_lit 4), (nat_lit 7)] (lkBin .add g132 g140) p141 
(dLook (nat_lit 19) [] [] (lkMove g12) p142 
(dLook (nat_lit 20) [] [(nat_lit 2), (nat_lit 4), (nat_lit 7)] (lkBin .add g141 g142) p143 
(dLook (nat_lit 21) [] [] (lkMove g11) p144 
(dLook (nat_lit 22) [] [] (lkIxArr (nat_lit 64) (nat_lit 1) g5 g144) p145 
(dLook (nat_lit 23) [(nat_lit 2), (nat_lit 4), (nat_lit 7)] [] (lkLoad1 g145) p146 
(dLook (nat_lit 24) [] [(nat_lit 2), (nat_lit 4), (nat_lit 7)] (lkBin .add g143 g146) p147 
(dLook (nat_lit 25) [] [(nat_lit 2), (nat_lit 4), (nat_lit 7)] (lkMove g147) p20 (dEnd [(nat_lit 123), (nat_lit 124), (nat_lit 125), (nat_lit 126), (nat_lit 127), (nat_lit 128), (nat_lit 129), (nat_lit 130), (nat_lit 131), (nat_lit 132), (nat_lit 133), (nat_lit 134), (nat_lit 135), (nat_lit 136), (nat_lit 137), (nat_lit 138), (nat_lit 139), (nat_lit 140), (nat_lit 141), (nat_lit 142), (nat_lit 143), (nat_lit 144), (nat_lit 145), (nat_lit 146), (nat_lit 147), (nat_lit 20)])))))))))))))))))))))))))))) (kSeq (oSet (xMove g13) p148 
(oSet (xCall q192 [g148, q18]) p149 
(oSet (xMove g13) p150 
(oSet (xCall q192 [g150, q200]) p151 
(oSet (xLook (lkBin .xor g149 g151)) p152 
(oSet (xMove g13) p153 
(oSet (xCall q192 [g153, q201]) p154 
(oSet (xLook (lkBin .xor g152 g154)) p155 
(oSet (xMove g13) p156 
(oSet (xMove g14) p157 
(oSet (xLook (lkBin .and g156 g157)) p158 
(oSet (xMove g13) p159 
(oSet (xMove g15) p160 
(oSet (xLook (lkBin .and g159 g160)) p161 
(oSet (xLook (lkBin .xor g158 g161)) p162 
(oSet (xMove g14) p163 
(oSet (xMove g15) p164 
(oSet (xLook (lkBin .and g163 g164)) p165 
(oSet (xLook (lkBin .xor g162 g165)) p166 
(oSet (xLook (lkBin .add g155 g166)) p167 
(oSet (xMove g167) p21 
oEnd))))))))))))))))))))) (oSet (xMove g20) p168 
(oSet (xMove g21) p169 
(oSet (xLook (lkBin .add g168 g169)) p170 
(oSet (xMove g13) p171 
(oSet (xMove g14) p172 
(oSet (xMove g15) p173 
(oSet (xLook (lkIxArr (nat_lit 8) (nat_lit 1) g10 q2)) p174 
(oSet (xLook (lkLoad1 g174)) p175 
(oSet (xMove g20) p176 
(oSet (xLook (lkBin .add g175 g176)) p177 
(oSet (xMove g16) p178 
(oSet (xMove g17) p179 
(oSet (xMove g18) p180 
(oSet (xLook (lkBuild q177 [((nat_lit 0), (nat_lit 1), g170), ((nat_lit 1), (nat_lit 1), g171), ((nat_lit 2), (nat_lit 1), g172), ((nat_lit 3), (nat_lit 1), g173), ((nat_lit 4), (nat_lit 1), g177), ((nat_lit 5), (nat_lit 1), g178), ((nat_lit 6), (nat_lit 1), g179), ((nat_lit 7), (nat_lit 1), g180)])) p181 
(oDo (xTurn (tnStore (nat_lit 8) g10 g181)) 
oEnd)))))))))))))))))))) (oSet (xLook (lkBin .add g105 q26)) p182 
(oSet (xMove g182) p105 
oEnd)))))))) (kSeq (kSeq (oSet (xMove q15) p183 
oEnd) (kBlock (nat_lit 6) (kLoop (kSeq (oSet (xLook (lkBin .lss g183 q67)) p184 
oEnd) (kSeq (kCond g184 kSkip (kExit (nat_lit 6))) (kSeq (kBlock (nat_lit 7) (kSeq (oSet (xMove g183) p185 
(oSet (xMove g185) p22 
oEnd)) (kDraw 
(dLook (nat_lit 0) [] [] (lkMove g22) p186 
(dLook (nat_lit 1) [] [] (lkIxArr (nat_lit 8) (nat_lit 1) g2 g186) p187 
(dLook (nat_lit 2) [] [] (lkLoad1 g187) p188 
(dLook (nat_lit 3) [] [] (lkMove g22) p189 
(dLook (nat_lit 4) [] [] (lkIxArr (nat_lit 8) (nat_lit 1) g10 g189) p190 
(dLook (nat_lit 5) [] [] (lkLoad1 g190) p191 
(dLook (nat_lit 6) [] [] (lkBin .add g188 g191) p192 
(dLook (nat_lit 7) [] [] (lkIxArr (nat_lit 8) (nat_lit 1) g2 g186) p193 
(dTurn (nat_lit 8) [] [] true (xTurn (tnStore (nat_lit 1) g193 g192)) noDst (dEnd [(nat_lit 186), (nat_lit 187), (nat_lit 188), (nat_lit 189), (nat_lit 190), (nat_lit 191), (nat_lit 192), (nat_lit 193)]))))))))))))) (oSet (xLook (lkBin .add g183 q26)) p194 
(oSet (xMove g194) p183 
oEnd)))))))) (kSeq (oSet (xLook (lkLoadN (nat_lit 8) g2)) p195 
(oDo (xTurn (tnStore (nat_lit 8) g4 g195)) 
oEnd)) kRet))))))))⟩
noncomputable def k82 : KFun := ⟨[rTmp (nat_lit 0) g0], (kSeq (oSet (xMove q4) p0 
oEnd) (kSeq (oSet (xLook (lkBuild q168 [((nat_lit 0), (nat_lit 1), q13)])) p1 
(oSet (xLook (lkBuild q168 [((nat_lit 0), (nat_lit 4), g1)])) p2 
(oSet (xTurn (tnBox g2)) p3 
(oSet (xMove g3) p0 
oEnd)))) kRet))⟩
def q202 : OpdF := kC (.func (.func (nat_lit 118)) ⟨[]⟩ ⟨[]⟩)
def q203 : OpdF := kC (.int .i64 (.ofNat (nat_lit 127)))
def q204 : OpdF := kC (.int .i64 (.ofNat (nat_lit 128)))
def q205 : OpdF := kC (.int .u64 (.ofNat (nat_lit 7)))
noncomputable def k83 : KFun := ⟨[], (kSeq (kSeq (oSet (xMove g0) p4 
(oSet (xCall q202 [g4]) p5 
oEnd)) (kCond g5 kRet kSkip)) (kSeq (kSeq (oSet (xMove g1) p6 
(oSet (xLook (lkBin .lss g6 q15)) p7 
oEnd)) (kCond g7 (kSeq (oSet (xMove g0) p8 
(oSet (xNil g8) p9 
(oSet (xLook (lkFieldAddr (nat_lit 0) g9)) p10 
(oSet (xLook (lkFieldAddr (nat_lit 2) g10)) p11 
(oSet (xLook (lkFieldAddr (nat_lit 0) g11)) p12 
(oDo (xTurn (tnStore (nat_lit 1) g12 q44)) 
oEnd)))))) kRet) kSkip)) (kSeq (kBlock (nat_lit 0) (kLoop (kSeq (kSeq (oSet (xMove g1) p13 
(oSet (xLook (lkBin .gtr g13 q203)) p14 
oEnd)) (kCond g14 kSkip (kExit (nat_lit 0)))) (kSeq (kBlock (nat_lit 1) (oSet (xMove g0) p17 
(oSet (xMove g0) p18 
(oSet (xNil g18) p19 
(oSet (xLook (lkFieldAddr (nat_lit 0) g19)) p20 
(oSet (xLook (lkFieldAddr (nat_lit 1) g20)) p21 
(oSet (xLook (lkLoad1 g21)) p22 
(oSet (xMove g1) p23 
(oSet (xLook (lkBin .and g23 q203)) p24 
(oSet (xLook (lkBin .or g24 q204)) p25 
(oSet (xLook (lkIntTo .u8 g25)) p26 
(oSet (xTurn (tnBuildSlice q10 [((nat_lit 0), (nat_lit 1), g26)] (nat_lit 1))) p27 
(oSet (xTurn (tnAppend (nat_lit 1) g22 g27)) p28 
(oSet (xNil g17) p29 
(oSet (xLook (lkFieldAddr (nat_lit 0) g29)) p30 
(oSet (xLook (lkFieldAddr (nat_lit 1) g30)) p31 
(oDo (xTurn (tnStore (nat_lit 1) g31 g28)) 
oEnd))))))))))))))))) (oSet (xMove g1) p15 
(oSet (xLook (lkBin .shr g15 q205)) p16 
(oSet (xMove g16) p1 
oEnd))))))) (oSet (xMove g0) p32 
(oSet (xMove g0) p33 
(oSet (xNil g33) p34 
(oSet (xLook (lkFieldAddr (nat_lit 0) g34)) p35 
(oSet (xLook (lkFieldAddr (nat_lit 1) g35)) p36 
(oSet (xLook (lkLoad1 g36)) p37 
(oSet (xMove g1) p38 
(oSet (xLook (lkIntTo .u8 g38)) p39 
(oSet (xTurn (tnBuildSlice q10 [((nat_lit 0), (nat_lit 1), g39)] (nat_lit 1))) p40 
(oSet (xTurn (tnAppend (nat_lit 1) g37 g40)) p41 
(oSet (xNil g32) p42 
(oSet (xLook (lkFieldAddr (nat_lit 0) g42)) p43 
(oSet (xLook (lkFieldAddr (nat_lit 1) g43)) p44 
(oDo (xTurn (tnStore (nat_lit 1) g44 g41)) 
oEnd)))))))))))))))))⟩
noncomputable def k84 : KFun := ⟨[], (kSeq (kSeq (oSet (xMove g0) p4 
(oSet (xCall q202 [g4]) p5 
oEnd)) (kCond g5 kRet kSkip)) (kSeq (oSet (xMove g0) p6 
(oSet (xMove g1) p7 
(oSet (xLook (lkLen .str g7)) p8 
(oSet (xCall q147 [g6, g8]) p9 
oEnd)))) (oSet (xMove g0) p10 
(oSet (xMove g0) p11 
(oSet (xNil g11) p12 
(oSet (xLook (lkFieldAddr (nat_lit 0) g12)) p13 
(oSet (xLook (lkFieldAddr (nat_lit 1) g13)) p14 
(oSet (xLook (lkLoad1 g14)) p15 
(oSet (xMove g1) p16 
(oSet (xTurn (tnAppend (nat_lit 1) g15 g16)) p17 
(oSet (xNil g10) p18 
(oSet (xLook (lkFieldAddr (nat_lit 0) g18)) p19 
(oSet (xLook (lkFieldAddr (nat_lit 1) g19)) p20 
(oDo (xTurn (tnStore (nat_lit 1) g20 g17)) 
oEnd))))))))))))))⟩
noncomputable def k86 : KFun := ⟨[rTmp (nat_lit 2) g2, rTmp (nat_lit 3) g3], (kSeq (oSet (xMove q19) p2 
(oSet (xMove q15) p3 
oEnd)) (kSeq (kBlock (nat_lit 0) (kSeq (oSet (xMove g0) p5 
(oSet (xCall q202 [g5]) p6 
(oSet (xMove g6) p4 
oEnd))) (kCond g4 (kSeq (oSet (xMove q19) p2 
(oSet (xMove q26) p3 
oEnd)) kRet) (kSeq (oSet (xMove g0) p8 
(oSet (xNil g8) p9 
(oSet (xLook (lkFieldAddr (nat_lit 0) g9)) p10 
(oSet (xLook (lkFieldAddr (nat_lit 2) g10)) p11 
(oSet (xLook (lkFieldAddr (nat_lit 0) g11)) p12 
(oSet (xLook (lkLoad1 g12)) p13 
(oSet (xLook (lkEq true .int g13 q15)) p14 
(oSet (xMove g14) p7 
oEnd)))))))) (kCond g7 (kSeq (kDraw 
(dLook (nat_lit 0) [] [] (lkMove g0) p15 
(dTurn (nat_lit 1) [] [] false (xNil g15) p16 
(dLook (nat_lit 2) [] [] (lkFieldAddr (nat_lit 0) g16) p17 
(dLook (nat_lit 3) [] [] (lkFieldAddr (nat_lit 2) g17) p18 
(dLook (nat_lit 4) [] [] (lkFieldAddr (nat_lit 0) g18) p19 
(dLook (nat_lit 5) [] [] (lkLoad1 g19) p20 
(dLook (nat_lit 6) [] [] (lkMove q19) p2 
(dLook (nat_lit 7) [] [] (lkMove g20) p3 (dEnd [(nat_lit 15), (nat_lit 16), (nat_lit 17), (nat_lit 18), (nat_lit 19), (nat_lit 20), (nat_lit 2), (nat_lit 3)])))))))))) kRet) kSkip))))) (kSeq (oSet (xTurn (tnBuildSlice [] [] (nat_lit 0))) p21 
(oSet (xMove g0) p22 
(oSet (xNil g22) p23 
(oSet (xLook (lkFieldAddr (nat_lit 0) g23)) p24 
(oSet (xLook (lkFieldAddr (nat_lit 1) g24)) p25 
(oSet (xLook (lkLoad1 g25)) p26 
(oSet (xTurn (tnAppend (nat_lit 1) g21 g26)) p27 
(oSet (xMove g27) p2 
(oSet (xMove q15) p3 
oEnd))))))))) kRet)))⟩
noncomputable def k87d0 : KD := 
(dLook (nat_lit 8) [] [(nat_lit 6)] (lkPick g34 q13 g40) p41 (dEnd [(nat_lit 33), (nat_lit 34), (nat_lit 35), (nat_lit 36), (nat_lit 37), (nat_lit 38), (nat_lit 39), (nat_lit 40), (nat_lit 41)]))
noncomputable def k87d1 : KD := 
(dIf [(nat_lit 6)] (wantF g34) p40 (dLook (nat_lit 7) [] [(nat_lit 6)] (lkBin .geq g39 q15) p40 k87d0) k87d0)
noncomputable def k87d2 : KD := 
(dIf [] (wantF g34) p39 (dTurn (nat_lit 6) [] [] true (xCall q135 [g37, g38]) p39 k87d1) k87d1)
noncomputable def k87d3 : KD := 
(dIf [] (wantF g34) p38 (dLook (nat_lit 5) [] [] (lkLoadN (nat_lit 32) g7) p38 k87d2) k87d2)
noncomputable def k87d4 : KD := 
(dIf [] (wantF g34) p37 (dLook (nat_lit 4) [] [] (lkFieldAddr (nat_lit 0) g36) p37 k87d3) k87d3)
noncomputable def k87d5 : KD := 
(dIf [] (wantF g34) p36 (dTurn (nat_lit 3) [] [] false (xNil g35) p36 k87d4) k87d4)
def q206 : OpdF := kC (.func (.func (nat_lit 119)) ⟨[]⟩ ⟨[]⟩)
noncomputable def k87d6 : KD := 
(dLook (nat_lit 16) [] [] (lkPick g59 q13 g72) p73 (dEnd [(nat_lit 57), (nat_lit 58), (nat_lit 59), (nat_lit 60), (nat_lit 61), (nat_lit 62), (nat_lit 63), (nat_lit 64), (nat_lit 65), (nat_lit 66), (nat_lit 67), (nat_lit 68), (nat_lit 69), (nat_lit 70), (nat_lit 71), (nat_lit 72), (nat_lit 73)]))
noncomputable def k87d7 : KD := 
(dIf [] (wantF g59) p72 (dLook (nat_lit 15) [] [] (lkBin .geq g71 q128) p72 k87d6) k87d6)
noncomputable def k87d8 : KD := 
(dIf [] (wantF g59) p71 (dLook (nat_lit 14) [] [] (lkBin .add g64 g70) p71 k87d7) k87d7)
noncomputable def k87d9 : KD := 
(dIf [] (wantF g59) p70 (dLook (nat_lit 13) [] [] (lkLen .sl g69) p70 k87d8) k87d8)
noncomputable def k87d10 : KD := 
(dIf [] (wantF g59) p69 (dLook (nat_lit 12) [] [] (lkLoad1 g68) p69 k87d9) k87d9)
noncomputable def k87d11 : KD := 
(dIf [] (wantF g59) p68 (dLook (nat_lit 11) [] [] (lkFieldAddr (nat_lit 0) g67) p68 k87d10) k87d10)
noncomputable def k87d12 : KD := 
(dIf [] (wantF g59) p67 (dLook (nat_lit 10) [] [] (lkFieldAddr (nat_lit 0) g66) p67 k87d11) k87d11)
noncomputable def k87d13 : KD := 
(dIf [] (wantF g59) p66 (dTurn (nat_lit 9) [] [] false (xNil g65) p66 k87d12) k87d12)
noncomputable def k87d14 : KD := 
(dIf [] (wantF g59) p65 (dLook (nat_lit 8) [] [] (lkMove g0) p65 k87d13) k87d13)
noncomputable def k87d15 : KD := 
(dIf [] (wantF g59) p64 (dLook (nat_lit 7) [] [] (lkLen .map g63) p64 k87d14) k87d14)
noncomputable def k87d16 : KD := 
(dIf [] (wantF g59) p63 (dLook (nat_lit 6) [] [] (lkLoad1 g62) p63 k87d15) k87d15)
noncomputable def k87d17 : KD := 
(dIf [] (wantF g59) p62 (dLook (nat_lit 5) [] [] (lkFieldAddr (nat_lit 38) g61) p62 k87d16) k87d16)
noncomputable def k87d18 : KD := 
(dIf [] (wantF g59) p61 (dTurn (nat_lit 4) [] [] false (xNil g60) p61 k87d17) k87d17)
noncomputable def k87 : KFun := ⟨[rCellN (nat_lit 4) g4 (nat_lit 32), rTmp (nat_lit 5) g5], (kSeq (oSet (xTurn (tnAlloc q8)) p4 
(oSet (xMove q15) p5 
oEnd)) (kSeq (kSeq (oSet (xMove g0) p12 
(oSet (xCall q39 [g12]) p13 
(oSet (xMove g13) p6 
oEnd))) (kSeq (oSet (xMove g6) p14 
(oSet (xLook (lkEq true .int g14 q15)) p15 
oEnd)) (kCond g15 (kSeq (oSet (xLook (lkBuild q8 [])) p16 
(oSet (xMove g6) p17 
(oDo (xTurn (tnStore (nat_lit 32) g4 g16)) 
(oSet (xMove g17) p5 
oEnd)))) kRet) kSkip))) (kSeq (kSeq (oSet (xMove g1) p18 
(oSet (xLook (lkLen .sl g18)) p19 
(oSet (xLook (lkBin .gtr g19 q60)) p20 
oEnd))) (kCond g20 (kSeq (oSet (xLook (lkBuild q8 [])) p21 
(oDo (xTurn (tnStore (nat_lit 32) g4 g21)) 
(oSet (xMove q2) p5 
oEnd))) kRet) kSkip)) (kSeq (oSet (xMove g1) p22 
(oSet (xCall q84 [g22]) p23 
(oSet (xTurn (tnAlloc q8)) p7 
(oDo (xTurn (tnStore (nat_lit 32) g7 g23)) 
oEnd)))) (kSeq (kSeq (kDraw 
(dLook (nat_lit 0) [] [] (lkMove g0) p25 
(dTurn (nat_lit 1) [] [] false (xNil g25) p26 
(dLook (nat_lit 2) [] [] (lkFieldAddr (nat_lit 38) g26) p27 
(dLook (nat_lit 3) [] [] (lkLoad1 g27) p28 
(dLook (nat_lit 4) [] [] (lkLoadN (nat_lit 32) g7) p29 
(dLook (nat_lit 5) [] [] (lkLookup (.many (nat_lit 32) .u8) (.agg ⟨[(.int .i64 (.ofNat (nat_lit 0))), (.int .i64 (.ofNat (nat_lit 0)))]⟩) true g28 g29) p30 
(dLook (nat_lit 6) [] [] (lkMove g30) p24 
(dLook (nat_lit 7) [] [] (lkExtract (nat_lit 0) g24) p31 
(dLook (nat_lit 8) [] [] (lkExtract (nat_lit 1) g24) p32 
(dTurn (nat_lit 9) [] [] false (xTurn (tnAlloc q72)) p8 
(dTurn (nat_lit 10) [] [] true (xTurn (tnStore (nat_lit 2) g8 g31)) noDst 
(dLook (nat_lit 11) [] [(nat_lit 10)] (lkMove g32) p9 (dEnd [(nat_lit 25), (nat_lit 26), (nat_lit 27), (nat_lit 28), (nat_lit 29), (nat_lit 30), (nat_lit 24), (nat_lit 31), (nat_lit 32), (nat_lit 8), (nat_lit 9)])))))))))))))) (kSeq (kDraw 
(dLook (nat_lit 0) [] [] (lkMove g9) p33 
(dLook (nat_lit 1) [] [] (lkMove g33) p34 
(dIf [] (wantF g34) p35 (dLook (nat_lit 2) [] [] (lkMove g0) p35 k87d5) k87d5)))) (kCond g41 (kSeq (kDraw 
(dLook (nat_lit 0) [] [] (lkMove g0) p42 
(dTurn (nat_lit 1) [] [] false (xNil g42) p43 
(dLook (nat_lit 2) [] [] (lkFieldAddr (nat_lit 0) g43) p44 
(dLook (nat_lit 3) [] [] (lkFieldAddr (nat_lit 1) g44) p45 
(dLook (nat_lit 4) [] [] (lkLoad1 g45) p46 
(dLook (nat_lit 5) [] [] (lkLoadN (nat_lit 32) g7) p47 
(dTurn (nat_lit 6) [] [] true (xTurn (tnDelete (.many (nat_lit 32) .u8) g46 g47)) noDst (dEnd [(nat_lit 42), (nat_lit 43), (nat_lit 44), (nat_lit 45), (nat_lit 46), (nat_lit 47)]))))))))) (kSeq (oSet (xLook (lkLoadN (nat_lit 32) g7)) p48 
(oDo (xTurn (tnStore (nat_lit 32) g4 g48)) 
(oSet (xMove q15) p5 
oEnd))) kRet)) kSkip))) (kSeq (oSet (xMove g0) p50 
(oSet (xMove g1) p51 
(oSet (xLook (lkLen .sl g51)) p52 
(oSet (xCall q117 [g52]) p53 
(oSet (xCall q206 [g50, g53]) p54 
(oSet (xMove g54) p49 
(oSet (xLook (lkExtract (nat_lit 0) g49)) p55 
(oSet (xLook (lkExtract (nat_lit 1) g49)) p56 
(oSet (xMove g55) p10 
(oSet (xMove g56) p11 
oEnd)))))))))) (kSeq (kSeq (kDraw 
(dLook (nat_lit 0) [] [] (lkMove g11) p57 
(dLook (nat_lit 1) [] [] (lkEq true .int g57 q15) p58 
(dLook (nat_lit 2) [] [] (lkMove g58) p59 
(dIf [] (wantF g59) p60 (dLook (nat_lit 3) [] [] (lkMove g0) p60 k87d18) k87d18))))) (kCond g73 (kSeq (oSet (xLook (lkBuild q8 [])) p74 
(oDo (xTurn (tnStore (nat_lit 32) g4 g74)) 
(oSet (xMove q67) p5 
oEnd))) kRet) kSkip)) (kSeq (kDraw 
(dLook (nat_lit 0) [] [] (lkMove g0) p75 
(dLook (nat_lit 1) [] [] (lkMove g0) p76 
(dTurn (nat_lit 2) [] [] false (xNil g76) p77 
(dLook (nat_lit 3) [] [] (lkFieldAddr (nat_lit 0) g77) p78 
(dLook (nat_lit 4) [] [] (lkFieldAddr (nat_lit 0) g78) p79 
(dLook (nat_lit 5) [] [] (lkLoad1 g79) p80 
(dLook (nat_lit 6) [] [] (lkMove g10) p81 
(dLook (nat_lit 7) [] [] (lkMove g1) p82 
(dLook (nat_lit 8) [] [] (lkLen .sl g82) p83 
(dLook (nat_lit 9) [] [] (lkBuild q72 [((nat_lit 0), (nat_lit 1), g81), ((nat_lit 1), (nat_lit 1), g83)]) p84 
(dLook (nat_lit 10) [] [] (lkLoadN (nat_lit 32) g7) p85 
(dLook (nat_lit 11) [] [] (lkMove g1) p86 
(dTurn (nat_lit 12) [(nat_lit 5), (nat_lit 8), (nat_lit 10)] [] true (xCall q125 [g86]) p87 
(dLook (nat_lit 13) [] [(nat_lit 12)] (lkBuild q98 [((nat_lit 0), (nat_lit 2), g84), ((nat_lit 2), (nat_lit 32), g85), ((nat_lit 34), (nat_lit 1), g87)]) p88 
(dTurn (nat_lit 14) [] [(nat_lit 12)] false (xTurn (tnBuildSlice q98 [((nat_lit 0), (nat_lit 35), g88)] (nat_lit 1))) p89 
(dTurn (nat_lit 15) [] [(nat_lit 12)] true (xTurn (tnAppend (nat_lit 35) g80 g89)) p90 
(dTurn (nat_lit 16) [] [(nat_lit 12), (nat_lit 15)] false (xNil g75) p91 
(dLook (nat_lit 17) [] [(nat_lit 12), (nat_lit 15)] (lkFieldAddr (nat_lit 0) g91) p92 
(dLook (nat_lit 18) [] [(nat_lit 12), (nat_lit 15)] (lkFieldAddr (nat_lit 0) g92) p93 
(dTurn (nat_lit 19) [] [(nat_lit 12), (nat_lit 15)] true (xTurn (tnStore (nat_lit 1) g93 g90)) noDst (dEnd [(nat_lit 75), (nat_lit 76), (nat_lit 77), (nat_lit 78), (nat_lit 79), (nat_lit 80), (nat_lit 81), (nat_lit 82), (nat_lit 83), (nat_lit 84), (nat_lit 85), (nat_lit 86), (nat_lit 87), (nat_lit 88), (nat_lit 89), (nat_lit 90), (nat_lit 91), (nat_lit 92), (nat_lit 93)])))))))))))))))))))))) (kSeq (oSet (xLook (lkLoadN (nat_lit 32) g7)) p94 
(oDo (xTurn (tnStore (nat_lit 32) g4 g94)) 
(oSet (xMove q15) p5 
oEnd))) kRet)))))))))⟩
noncomputable def k88 : KFun := ⟨[rTmp (nat_lit 2) g2], (kSeq (oSet (xTurn (tnBox g0)) p1 
(oSet (xMove q15) p2 
oEnd)) (kSeq (oSet (xLook (lkFieldAddr (nat_lit 1) g1)) p6 
(oSet (xLook (lkLoad1 g6)) p7 
(oSet (xLook (lkLen .sl g7)) p8 
(oSet (xMove g8) p3 
oEnd)))) (kSeq (kSeq (oSet (xLook (lkFieldAddr (nat_lit 2) g1)) p9 
(oSet (xLook (lkLoad1 g9)) p10 
(oSet (xLook (lkLen .sl g10)) p11 
(oSet (xMove q15) p12 
oEnd)))) (kBlock (nat_lit 0) (kLoop (kSeq (oSet (xLook (lkBin .lss g12 g11)) p13 
oEnd) (kSeq (kCond g13 kSkip (kExit (nat_lit 0))) (kSeq (kBlock (nat_lit 1) (kSeq (oSet (xLook (lkIxSl (nat_lit 33) g10 g12)) p14 
(oSet (xLook (lkLoadN (nat_lit 33) g14)) p15 
(oSet (xTurn (tnAlloc q89)) p5 
(oDo (xTurn (tnStore (nat_lit 33) g5 g15)) 
oEnd)))) (oSet (xMove g3) p16 
(oSet (xLook (lkFieldAddr (nat_lit 32) g5)) p17 
(oSet (xLook (lkLoad1 g17)) p18 
(oSet (xLook (lkBin .add g16 g18)) p19 
(oSet (xMove g19) p3 
oEnd))))))) (oSet (xLook (lkBin .add g12 q26)) p20 
(oSet (xMove g20) p12 
oEnd)))))))) (kSeq (oSet (xMove g3) p21 
(oSet (xMove g21) p2 
oEnd)) kRet))))⟩
def q207 : CCode := (.region false [⟨none, (some (nat_lit 5)), (.alloc [(.int .u8 (.ofNat (nat_lit 0))), (.int .u8 (.ofNat (nat_lit 0))), (.int .u8 (.ofNat (nat_lit 0))), (.int .u8 (.ofNat (nat_lit 0))), (.int .u8 (.ofNat (nat_lit 0))), (.int .u8 (.ofNat (nat_lit 0))), (.int .u8 (.ofNat (nat_lit 0))), (.int .u8 (.ofNat (nat_lit 0))), (.int .u8 (.ofNat (nat_lit 0))), (.int .u8 (.ofNat (nat_lit 0))), (.int .u8 (.ofNat (nat_lit 0))), (.int .u8 (.ofNat (nat_lit 0))), (.int .u8 (.ofNat (nat_lit 0))), (.int .u8 (.ofNat (nat_lit 0))), (.int .u8 (.ofNat (nat_lit 0))), (.int .u8 (.ofNat (nat_lit 0))), (.int .u8 (.ofNat (nat_lit 0))), (.int .u8 (.ofNat (nat_lit 0))), (.int .u8 (.ofNat (nat_lit 0))), (.int .u8 (.ofNat (nat_lit 0))), (.int .u8 (.ofNat (nat_lit 0))), (.int .u8 (.ofNat (nat_lit 0))), (.int .u8 (.ofNat (nat_lit 0))), (.int .u8 (.ofNat (nat_lit 0))), (.int .u8 (.ofNat (nat_lit 0))), (.int .u8 (.ofNat (nat_lit 0))), (.int .u8 (.ofNat (nat_lit 0))), (.int .u8 (.ofNat (nat_lit 0))), (.int .u8 (.ofNat (nat_lit 0))), (.int .u8 (.ofNat (nat_lit 0))), (.int .u8 (.ofNat (nat_lit 0))), (.int .u8 (.ofNat (nat_lit 0)))]), (nat_lit 0), [], []⟩,
⟨none, none, (.store (nat_lit 32) (.tmp (nat_lit 5)) (.tmp (nat_lit 7))), (nat_lit 1), [], []⟩])
def q208 : CCode := (.block (nat_lit 1) (.region false [⟨none, (some (nat_lit 8)), (.load1 (.tmp (nat_lit 2))), (nat_lit 0), [], []⟩,
⟨none, (some (nat_lit 9)), (.loadN (nat_lit 32) (.tmp (nat_lit 5))), (nat_lit 1), [], []⟩,
⟨none, (some (nat_lit 10)), (.buildSlice [(.int .u8 (.ofNat (nat_lit 0))), (.int .u8 (.ofNat (nat_lit 0))), (.int .u8 (.ofNat (nat_lit 0))), (.int .u8 (.ofNat (nat_lit 0))), (.int .u8 (.ofNat (nat_lit 0))), (.int .u8 (.ofNat (nat_lit 0))), (.int .u8 (.ofNat (nat_lit 0))), (.int .u8 (.ofNat (nat_lit 0))), (.int .u8 (.ofNat (nat_lit 0))), (.int .u8 (.ofNat (nat_lit 0))), (.int .u8 (.ofNat (nat_lit 0))), (.int .u8 (.ofNat (nat_lit 0))), (.int .u8 (.ofNat (nat_lit 0))), (.int .u8 (.ofNat (nat_lit 0))), (.int .u8 (.ofNat (nat_lit 0))), (.int .u8 (.ofNat (nat_lit 0))), (.int .u8 (.ofNat (nat_lit 0))), (.int .u8 (.ofNat (nat_lit 0))), (.int .u8 (.ofNat (nat_lit 0))), (.int .u8 (.ofNat (nat_lit 0))), (.int .u8 (.ofNat (nat_lit 0))), (.int .u8 (.ofNat (nat_lit 0))), (.int .u8 (.ofNat (nat_lit 0))), (.int .u8 (.ofNat (nat_lit 0))), (.int .u8 (.ofNat (nat_lit 0))), (.int .u8 (.ofNat (nat_lit 0))), (.int .u8 (.ofNat (nat_lit 0))), (.int .u8 (.ofNat (nat_lit 0))), (.int .u8 (.ofNat (nat_lit 0))), (.int .u8 (.ofNat (nat_lit 0))), (.int .u8 (.ofNat (nat_lit 0))), (.int .u8 (.ofNat (nat_lit 0)))] [⟨(nat_lit 0), (nat_lit 32), (.tmp (nat_lit 9))⟩] (nat_lit 1)), (nat_lit 2), [], []⟩,
⟨none, (some (nat_lit 11)), (.append (nat_lit 32) (.tmp (nat_lit 8)) (.tmp (nat_lit 10))), (nat_lit 3), [], []⟩,
⟨none, none, (.store (nat_lit 1) (.tmp (nat_lit 2)) (.tmp (nat_lit 11))), (nat_lit 4), [], []⟩]))
noncomputable def k89 : KFun := ⟨[rTmp (nat_lit 4) g4], (kSeq (oSet (xTurn (tnBox g0)) p2 
(oSet (xMove q19) p4 
oEnd)) (kSeq (kSeq (oSet (xMove g1) p6 
oEnd) (kBlock (nat_lit 0) (kRange g6 [(nat_lit 7)] q207 q208))) (kSeq (oSet (xLook (lkLoad1 g2)) p12 
(oSet (xMove g12) p4 
oEnd)) kRet)))⟩
def q209 : OpdF := kC (.func (.func (nat_lit 91)) ⟨[]⟩ ⟨[]⟩)
def q210 : OpdF := kC (.func (.func (nat_lit 92)) ⟨[]⟩ ⟨[]⟩)
noncomputable def k90 : KFun := ⟨[], (kSeq (oSet (xLook (lkLoad1 g1)) p5 
(oSet (xLook (lkLoadN (nat_lit 32) g2)) p6 
(oSet (xCall q209 [g5, g6]) p7 
(oSet (xTurn (tnAlloc q37)) p4 
(oDo (xTurn (tnStore (nat_lit 3) g4 g7)) 
oEnd))))) (kSeq (oSet (xLook (lkLoad1 g1)) p8 
(oSet (xNil g8) p9 
(oSet (xLook (lkFieldAddr (nat_lit 1) g9)) p10 
(oSet (xLook (lkLoad1 g10)) p11 
(oSet (xLook (lkEq false .int g11 q15)) p12 
oEnd))))) (kCond g12 (oSet (xLook (lkLoad1 g1)) p13 
(oSet (xLook (lkLoadN (nat_lit 3) g4)) p14 
(oSet (xMove g0) p15 
(oSet (xCall q210 [g13, g14, q15, g15]) p16 
oEnd)))) kSkip)))⟩
def q211 : OpdF := kC (.func (.func (nat_lit 120)) ⟨[]⟩ ⟨[]⟩)
def q212 : OpdF := kC (.int .i64 (.ofNat (nat_lit 20)))
def q213 : OpdF := kC (.func (.func (nat_lit 121)) ⟨[]⟩ ⟨[]⟩)
noncomputable def k91 : KFun := ⟨[rCellN (nat_lit 4) g4 (nat_lit 3)], (kSeq (oSet (xTurn (tnBox g1)) p3 
(oSet (xTurn (tnAlloc q37)) p4 
oEnd)) (kSeq (kDraw 
(dLook (nat_lit 0) [] [] (lkMove g0) p10 
(dTurn (nat_lit 1) [] [] false (xNil g10) p11 
(dLook (nat_lit 2) [] [] (lkFieldAddr (nat_lit 0) g11) p12 
(dLook (nat_lit 3) [] [] (lkLoad1 g12) p13 
(dLook (nat_lit 4) [] [] (lkLoadN (nat_lit 32) g3) p14 
(dTurn (nat_lit 5) [] [] true (xCall q79 [g13, g14]) p15 
(dLook (nat_lit 6) [] [(nat_lit 5)] (lkMove g15) p9 
(dLook (nat_lit 7) [] [(nat_lit 5)] (lkExtract (nat_lit 0) g9) p16 
(dLook (nat_lit 8) [] [(nat_lit 5)] (lkExtract (nat_lit 1) g9) p17 
(dLook (nat_lit 9) [] [(nat_lit 5)] (lkMove g16) p5 
(dLook (nat_lit 10) [] [(nat_lit 5)] (lkMove g17) p6 (dEnd [(nat_lit 10), (nat_lit 11), (nat_lit 12), (nat_lit 13), (nat_lit 14), (nat_lit 15), (nat_lit 9), (nat_lit 16), (nat_lit 17), (nat_lit 5), (nat_lit 6)]))))))))))))) (kSeq (kSeq (oSet (xMove g6) p18 
(oSet (xLook (lkEq true .int g18 q15)) p19 
oEnd)) (kCond g19 (kSeq (oSet (xMove g0) p20 
(oSet (xMove g6) p21 
(oSet (xCall q211 [g20, g21]) p22 
oEnd))) (kSeq (oSet (xLook (lkBuild q37 [])) p23 
(oDo (xTurn (tnStore (nat_lit 3) g4 g23)) 
oEnd)) kRet)) kSkip)) (kSeq (oSet (xMove g5) p24 
(oSet (xCall q126 [g24]) p25 
(oSet (xMove g25) p7 
oEnd))) (kSeq (oSet (xMove g7) p26 
(oSet (xCall q130 [g26, q15, q212]) p27 
(oSet (xLook (lkBuild q37 [((nat_lit 0), (nat_lit 1), g27)])) p28 
(oSet (xTurn (tnAlloc q37)) p8 
(oDo (xTurn (tnStore (nat_lit 3) g8 g28)) 
oEnd))))) (kSeq (kSeq (oSet (xMove g7) p29 
(oSet (xCall q127 [g29, q67]) p30 
(oSet (xMove q15) p31 
oEnd))) (kBlock (nat_lit 0) (kLoop (kSeq (oSet (xLook (lkBin .lss g31 g30)) p32 
oEnd) (kSeq (kCond g32 kSkip (kExit (nat_lit 0))) (kSeq (kBlock (nat_lit 1) (kSeq (oSet (xLook (lkFieldAddr (nat_lit 0) g8)) p33 
(oSet (xLook (lkLoad1 g33)) p34 
(oSet (xLook (lkEq false .int g34 q15)) p35 
oEnd))) (kCond g35 (kDraw 
(dLook (nat_lit 0) [] [] (lkFieldAddr (nat_lit 1) g8) p36 
(dLook (nat_lit 1) [] [] (lkLoad1 g36) p37 
(dLook (nat_lit 2) [] [] (lkMove g7) p38 
(dTurn (nat_lit 3) [(nat_lit 1)] [] true (xCall q213 [g38, q81]) p39 
(dTurn (nat_lit 4) [] [(nat_lit 3)] false (xTurn (tnBuildSlice q6 [((nat_lit 0), (nat_lit 1), g39)] (nat_lit 1))) p40 
(dTurn (nat_lit 5) [] [(nat_lit 3)] true (xTurn (tnAppend (nat_lit 1) g37 g40)) p41 
(dLook (nat_lit 6) [] [(nat_lit 3), (nat_lit 5)] (lkFieldAddr (nat_lit 1) g8) p42 
(dTurn (nat_lit 7) [] [(nat_lit 3), (nat_lit 5)] true (xTurn (tnStore (nat_lit 1) g42 g41)) noDst (dEnd [(nat_lit 36), (nat_lit 37), (nat_lit 38), (nat_lit 39), (nat_lit 40), (nat_lit 41), (nat_lit 42)])))))))))) (kDraw 
(dLook (nat_lit 0) [] [] (lkFieldAddr (nat_lit 2) g8) p43 
(dLook (nat_lit 1) [] [] (lkLoad1 g43) p44 
(dLook (nat_lit 2) [] [] (lkMove g7) p45 
(dTurn (nat_lit 3) [(nat_lit 1)] [] true (xCall q129 [g45]) p46 
(dLook (nat_lit 4) [] [] (lkMove g7) p47 
(dTurn (nat_lit 5) [(nat_lit 1)] [(nat_lit 3)] true (xCall q130 [g47, q26, q32]) p48 
(dLook (nat_lit 6) [] [(nat_lit 3), (nat_lit 5)] (lkBuild q89 [((nat_lit 0), (nat_lit 32), g46), ((nat_lit 32), (nat_lit 1), g48)]) p49 
(dTurn (nat_lit 7) [] [(nat_lit 3), (nat_lit 5)] false (xTurn (tnBuildSlice q89 [((nat_lit 0), (nat_lit 33), g49)] (nat_lit 1))) p50 
(dTurn (nat_lit 8) [] [(nat_lit 3), (nat_lit 5)] true (xTurn (tnAppend (nat_lit 33) g44 g50)) p51 
(dLook (nat_lit 9) [] [(nat_lit 3), (nat_lit 5), (nat_lit 8)] (lkFieldAddr (nat_lit 2) g8) p52 
(dTurn (nat_lit 10) [] [(nat_lit 3), (nat_lit 5), (nat_lit 8)] true (xTurn (tnStore (nat_lit 1) g52 g51)) noDst (dEnd [(nat_lit 43), (nat_lit 44), (nat_lit 45), (nat_lit 46), (nat_lit 47), (nat_lit 48), (nat_lit 49), (nat_lit 50), (nat_lit 51), (nat_lit 52)])))))))))))))))) (oSet (xLook (lkBin .add g31 q26)) p53 
(oSet (xMove g53) p31 
oEnd)))))))) (kSeq (kSeq (oSet (xMove g7) p54 
(oSet (xCall q132 [g54]) p55 
(oSet (xLook (lkField1 (nat_lit 0) g55)) p56 
(oSet (xLook (lkEq true .int g56 q15)) p57 
(oSet (xMove g57) p58 
(oSetIf (wantF g58) (xLook (lkFieldAddr (nat_lit 0) g8)) p59 
(oSetIf (wantF g58) (xLook (lkLoad1 g59)) p60 
(oSetIf (wantF g58) (xLook (lkBin .gtr g60 q15)) p61 
(oSetIf (wantF g58) (xMove g61) p62 
(oSetIf (wantT g62) (xLook (lkFieldAddr (nat_lit 2) g8)) p63 
(oSetIf (wantT g62) (xLook (lkLoad1 g63)) p64 
(oSetIf (wantT g62) (xLook (lkLen .sl g64)) p65 
(oSetIf (wantT g62) (xLook (lkEq false .int g65 q15)) p66 
(oSetIf (wantF g58) (xLook (lkPick g62 g66 q0)) p67 
(oSet (xLook (lkPick g58 q13 g67)) p68 
(oSet (xMove g68) p69 
(oSetIf (wantF g69) (xLook (lkLoadN (nat_lit 3) g8)) p70 
(oSetIf (wantF g69) (xCall q152 [g70]) p71 
(oSetIf (wantF g69) (xLook (lkBin .gtr g71 q32)) p72 
(oSet (xLook (lkPick g69 q13 g72)) p73 
oEnd)))))))))))))))))))) (kCond g73 (kSeq (oSet (xMove g0) p74 
(oSet (xCall q211 [g74, q74]) p75 
oEnd)) (kSeq (oSet (xLook (lkBuild q37 [])) p76 
(oDo (xTurn (tnStore (nat_lit 3) g4 g76)) 
oEnd)) kRet)) kSkip)) (kSeq (kDraw 
(dLook (nat_lit 0) [] [] (lkMove g0) p77 
(dTurn (nat_lit 1) [] [] false (xNil g77) p78 
(dLook (nat_lit 2) [] [] (lkFieldAddr (nat_lit 2) g78) p79 
(dLook (nat_lit 3) [] [] (lkLoad1 g79) p80 
(dLook (nat_lit 4) [] [] (lkLoadN (nat_lit 32) g3) p81 
(dLook (nat_lit 5) [] [] (lkBuild [] []) p82 
(dTurn (nat_lit 6) [] [] true (xTurn (tnMapUpdate (.many (nat_lit 32) .u8) g80 g81 g82)) noDst (dEnd [(nat_lit 77), (nat_lit 78), (nat_lit 79), (nat_lit 80), (nat_lit 81), (nat_lit 82)]))))))))) (kSeq (oSet (xLook (lkLoadN (nat_lit 3) g8)) p83 
(oDo (xTurn (tnStore (nat_lit 3) g4 g83)) 
oEnd)) kRet)))))))))⟩
noncomputable def k92d0 : KD := 
(dLook (nat_lit 19) [] [(nat_lit 14)] (lkPick g46 g59 q0) p60 (dEnd [(nat_lit 41), (nat_lit 42), (nat_lit 43), (nat_lit 44), (nat_lit 45), (nat_lit 46), (nat_lit 47), (nat_lit 48), (nat_lit 49), (nat_lit 50), (nat_lit 51), (nat_lit 52), (nat_lit 53), (nat_lit 54), (nat_lit 55), (nat_lit 56), (nat_lit 57), (nat_lit 58), (nat_lit 59), (nat_lit 60)]))
noncomputable def k92d1 : KD := 
(dIf [(nat_lit 14)] (wantT g46) p59 (dLook (nat_lit 18) [] [(nat_lit 14)] (lkPick g53 q13 g58) p59 k92d0) k92d0)
noncomputable def k92d2 : KD := 
(dIf [(nat_lit 14)] (wantF g53) p58 (dLook (nat_lit 17) [] [(nat_lit 14)] (lkEq true .int g55 g57) p58 k92d1) k92d1)
noncomputable def k92d3 : KD := 
(dIf [] (wantF g53) p57 (dLook (nat_lit 16) [(nat_lit 14)] [] (lkLoad1 g56) p57 k92d2) k92d2)
noncomputable def k92d4 : KD := 
(dIf [] (wantF g53) p56 (dLook (nat_lit 15) [] [] (lkFieldAddr (nat_lit 32) g12) p56 k92d3) k92d3)
noncomputable def k92d5 : KD := 
(dIf [] (wantF g53) p55 (dTurn (nat_lit 14) [] [] true (xCall q152 [g54]) p55 k92d4) k92d4)
noncomputable def k92d6 : KD := 
(dIf [] (wantF g53) p54 (dLook (nat_lit 13) [] [] (lkLoadN (nat_lit 3) g13) p54 k92d5) k92d5)
noncomputable def k92d7 : KD := 
(dIf [] (wantT g46) p53 (dLook (nat_lit 12) [] [] (lkMove g52) p53 k92d6) k92d6)
noncomputable def k92d8 : KD := 
(dIf [] (wantT g46) p52 (dLook (nat_lit 11) [] [] (lkEq true .int g48 g51) p52 k92d7) k92d7)
noncomputable def k92d9 : KD := 
(dIf [] (wantT g46) p51 (dLook (nat_lit 10) [] [] (lkBin .sub g50 q26) p51 k92d8) k92d8)
noncomputable def k92d10 : KD := 
(dIf [] (wantT g46) p50 (dLook (nat_lit 9) [] [] (lkLoad1 g49) p50 k92d9) k92d9)
noncomputable def k92d11 : KD := 
(dIf [] (wantT g46) p49 (dLook (nat_lit 8) [] [] (lkFieldAddr (nat_lit 0) g5) p49 k92d10) k92d10)
noncomputable def k92d12 : KD := 
(dIf [] (wantT g46) p48 (dLook (nat_lit 7) [] [] (lkLoad1 g47) p48 k92d11) k92d11)
noncomputable def k92 : KFun := ⟨[rTmp (nat_lit 8) g8], (kSeq (oSet (xTurn (tnBox g1)) p5 
(oSet (xMove q0) p8 
oEnd)) (kSeq (kSeq (oSet (xLook (lkFieldAddr (nat_lit 1) g5)) p14 
(oSet (xLook (lkLoad1 g14)) p15 
(oSet (xLook (lkLen .sl g15)) p16 
(oSet (xMove q15) p17 
oEnd)))) (kBlock (nat_lit 0) (kLoop (kSeq (oSet (xLook (lkBin .lss g17 g16)) p18 
oEnd) (kSeq (kCond g18 kSkip (kExit (nat_lit 0))) (kSeq (kBlock (nat_lit 1) (kSeq (oSet (xMove g17) p19 
(oSet (xLook (lkIxSl (nat_lit 1) g15 g17)) p20 
(oSet (xLook (lkLoad1 g20)) p21 
(oSet (xMove g19) p9 
(oSet (xMove g21) p10 
oEnd))))) (kSeq (oSet (xMove g3) p22 
(oSet (xMove g2) p23 
(oSet (xMove g9) p24 
(oSet (xLook (lkBin .add g23 g24)) p25 
(oSet (xMove g10) p26 
(oSet (xCall g22 [g25, g26]) p27 
(oSet (xLook (lkUn .not g27)) p28 
oEnd))))))) (kCond g28 (kSeq (oSet (xMove q0) p8 
oEnd) kRet) kSkip)))) (oSet (xLook (lkBin .add g17 q26)) p29 
(oSet (xMove g29) p17 
oEnd)))))))) (kSeq (kSeq (oSet (xLook (lkFieldAddr (nat_lit 2) g5)) p30 
(oSet (xLook (lkLoad1 g30)) p31 
(oSet (xLook (lkLen .sl g31)) p32 
(oSet (xMove q15) p33 
oEnd)))) (kBlock (nat_lit 2) (kLoop (kSeq (oSet (xLook (lkBin .lss g33 g32)) p34 
oEnd) (kSeq (kCond g34 kSkip (kExit (nat_lit 2))) (kSeq (kBlock (nat_lit 3) (kSeq (oSet (xLook (lkIxSl (nat_lit 33) g31 g33)) p35 
(oSet (xLook (lkLoadN (nat_lit 33) g35)) p36 
(oSet (xTurn (tnAlloc q89)) p12 
(oDo (xTurn (tnStore (nat_lit 33) g12 g36)) 
oEnd)))) (kSeq (oSet (xMove g0) p37 
(oSet (xLook (lkFieldAddr (nat_lit 0) g12)) p38 
(oSet (xLook (lkLoadN (nat_lit 32) g38)) p39 
(oSet (xCall q209 [g37, g39]) p40 
(oSet (xTurn (tnAlloc q37)) p13 
(oDo (xTurn (tnStore (nat_lit 3) g13 g40)) 
oEnd)))))) (kSeq (kSeq (kDraw 
(dLook (nat_lit 0) [] [] (lkMove g0) p41 
(dTurn (nat_lit 1) [] [] false (xNil g41) p42 
(dLook (nat_lit 2) [] [] (lkFieldAddr (nat_lit 1) g42) p43 
(dLook (nat_lit 3) [] [] (lkLoad1 g43) p44 
(dLook (nat_lit 4) [] [] (lkEq false .int g44 q15) p45 
(dLook (nat_lit 5) [] [] (lkMove g45) p46 
(dIf [] (wantT g46) p47 (dLook (nat_lit 6) [] [] (lkFieldAddr (nat_lit 0) g13) p47 k92d12) k92d12)))))))) (kCond g60 (oSet (xMove g0) p61 
(oSet (xCall q211 [g61, q74]) p62 
oEnd)) kSkip)) (kSeq (kSeq (oSet (xMove g0) p63 
(oSet (xNil g63) p64 
(oSet (xLook (lkFieldAddr (nat_lit 1) g64)) p65 
(oSet (xLook (lkLoad1 g65)) p66 
(oSet (xLook (lkEq true .int g66 q15)) p67 
(oSet (xMove g67) p68 
(oSetIf (wantF g68) (xMove g0) p69 
(oSetIf (wantF g68) (xLook (lkLoadN (nat_lit 3) g13)) p70 
(oSetIf (wantF g68) (xMove g2) p71 
(oSetIf (wantF g68) (xMove g3) p72 
(oSetIf (wantF g68) (xCall q210 [g69, g70, g71, g72]) p73 
(oSetIf (wantF g68) (xLook (lkUn .not g73)) p74 
(oSet (xLook (lkPick g68 q13 g74)) p75 
oEnd))))))))))))) (kCond g75 (kSeq (oSet (xMove q0) p8 
oEnd) kRet) kSkip)) (oSet (xMove g2) p76 
(oSet (xLook (lkFieldAddr (nat_lit 32) g12)) p77 
(oSet (xLook (lkLoad1 g77)) p78 
(oSet (xLook (lkBin .add g76 g78)) p79 
(oSet (xMove g79) p2 
oEnd)))))))))) (oSet (xLook (lkBin .add g33 q26)) p80 
(oSet (xMove g80) p33 
oEnd)))))))) (kSeq (oSet (xMove q13) p8 
oEnd) kRet))))⟩
noncomputable def k93d0 : KD := 
(dLook (nat_lit 16) [] [(nat_lit 14)] (lkPick g21 g33 q0) p34 (dEnd [(nat_lit 18), (nat_lit 19), (nat_lit 20), (nat_lit 21), (nat_lit 22), (nat_lit 23), (nat_lit 24), (nat_lit 25), (nat_lit 26), (nat_lit 27), (nat_lit 28), (nat_lit 29), (nat_lit 30), (nat_lit 31), (nat_lit 32), (nat_lit 33), (nat_lit 34)]))
noncomputable def k93d1 : KD := 
(dIf [(nat_lit 14)] (wantT g21) p33 (dLook (nat_lit 15) [] [(nat_lit 14)] (lkBin .lss g32 q15) p33 k93d0) k93d0)
noncomputable def k93d2 : KD := 
(dIf [] (wantT g21) p32 (dTurn (nat_lit 14) [] [] true (xCall g22 [g26, g31]) p32 k93d1) k93d1)
noncomputable def k93d3 : KD := 
(dIf [] (wantT g21) p31 (dLook (nat_lit 13) [] [] (lkLoadN (nat_lit 32) g30) p31 k93d2) k93d2)
noncomputable def k93d4 : KD := 
(dIf [] (wantT g21) p30 (dLook (nat_lit 12) [] [] (lkIxSl (nat_lit 32) g27 g29) p30 k93d3) k93d3)
noncomputable def k93d5 : KD := 
(dIf [] (wantT g21) p29 (dLook (nat_lit 11) [] [] (lkBin .sub g28 q26) p29 k93d4) k93d4)
noncomputable def k93d6 : KD := 
(dIf [] (wantT g21) p28 (dLook (nat_lit 10) [] [] (lkMove g9) p28 k93d5) k93d5)
noncomputable def k93d7 : KD := 
(dIf [] (wantT g21) p27 (dLook (nat_lit 9) [] [] (lkMove g0) p27 k93d6) k93d6)
noncomputable def k93d8 : KD := 
(dIf [] (wantT g21) p26 (dLook (nat_lit 8) [] [] (lkLoadN (nat_lit 32) g25) p26 k93d7) k93d7)
noncomputable def k93d9 : KD := 
(dIf [] (wantT g21) p25 (dLook (nat_lit 7) [] [] (lkIxSl (nat_lit 32) g23 g24) p25 k93d8) k93d8)
noncomputable def k93d10 : KD := 
(dIf [] (wantT g21) p24 (dLook (nat_lit 6) [] [] (lkMove g9) p24 k93d9) k93d9)
noncomputable def k93d11 : KD := 
(dIf [] (wantT g21) p23 (dLook (nat_lit 5) [] [] (lkMove g0) p23 k93d10) k93d10)
noncomputable def k93 : KFun := ⟨[], (kSeq (oSet (xMove g1) p10 
(oSet (xLook (lkBin .add g10 q26)) p11 
(oSet (xMove g11) p8 
oEnd))) (kBlock (nat_lit 0) (kLoop (kSeq (kSeq (oSet (xMove g8) p12 
(oSet (xMove g2) p13 
(oSet (xLook (lkBin .lss g12 g13)) p14 
oEnd))) (kCond g14 kSkip (kExit (nat_lit 0)))) (kSeq (kBlock (nat_lit 1) (kSeq (oSet (xMove g8) p17 
(oSet (xMove g17) p9 
oEnd)) (kBlock (nat_lit 2) (kLoop (kSeq (kSeq (kDraw 
(dLook (nat_lit 0) [] [] (lkMove g9) p18 
(dLook (nat_lit 1) [] [] (lkMove g1) p19 
(dLook (nat_lit 2) [] [] (lkBin .gtr g18 g19) p20 
(dLook (nat_lit 3) [] [] (lkMove g20) p21 
(dIf [] (wantT g21) p22 (dLook (nat_lit 4) [] [] (lkMove g3) p22 k93d11) k93d11)))))) (kCond g34 kSkip (kExit (nat_lit 2)))) (kSeq (kBlock (nat_lit 3) (kDraw 
(dLook (nat_lit 0) [] [] (lkMove g0) p37 
(dLook (nat_lit 1) [] [] (lkMove g9) p38 
(dLook (nat_lit 2) [] [] (lkMove g0) p39 
(dLook (nat_lit 3) [] [] (lkMove g9) p40 
(dLook (nat_lit 4) [] [] (lkBin .sub g40 q26) p41 
(dLook (nat_lit 5) [] [] (lkMove g0) p42 
(dLook (nat_lit 6) [] [] (lkMove g9) p43 
(dLook (nat_lit 7) [] [] (lkBin .sub g43 q26) p44 
(dLook (nat_lit 8) [] [] (lkIxSl (nat_lit 32) g42 g44) p45 
(dLook (nat_lit 9) [] [] (lkLoadN (nat_lit 32) g45) p46 
(dLook (nat_lit 10) [] [] (lkMove g0) p47 
(dLook (nat_lit 11) [] [] (lkMove g9) p48 
(dLook (nat_lit 12) [] [] (lkIxSl (nat_lit 32) g47 g48) p49 
(dLook (nat_lit 13) [] [] (lkLoadN (nat_lit 32) g49) p50 
(dLook (nat_lit 14) [] [] (lkIxSl (nat_lit 32) g37 g38) p51 
(dTurn (nat_lit 15) [] [] true (xTurn (tnStore (nat_lit 32) g51 g46)) noDst 
(dLook (nat_lit 16) [] [(nat_lit 15)] (lkIxSl (nat_lit 32) g39 g41) p52 
(dTurn (nat_lit 17) [] [(nat_lit 15)] true (xTurn (tnStore (nat_lit 32) g52 g50)) noDst (dEnd [(nat_lit 37), (nat_lit 38), (nat_lit 39), (nat_lit 40), (nat_lit 41), (nat_lit 42), (nat_lit 43), (nat_lit 44), (nat_lit 45), (nat_lit 46), (nat_lit 47), (nat_lit 48), (nat_lit 49), (nat_lit 50), (nat_lit 51), (nat_lit 52)]))))))))))))))))))))) (oSet (xMove g9) p35 
(oSet (xLook (lkBin .sub g35 q26)) p36 
(oSet (xMove g36) p9 
oEnd))))))))) (oSet (xMove g8) p15 
(oSet (xLook (lkBin .add g15 q26)) p16 
(oSet (xMove g16) p8 
oEnd))))))))⟩
def q218 : OpdF := kC (.int .u64 (.ofNat (nat_lit 1)))
def q219 : OpdF := kC (.int .i64 (.ofNat (nat_lit 50)))
def q224 : OpdF := kC (.string ⟨⟨[0, 1, 2, 2, 3, 3, 3, 3, 4, 4, 4, 4, 4, 4, 4, 4, 5, 5, 5, 5, 5, 5, 5, 5, 5, 5, 5, 5, 5, 5, 5, 5, 6, 6, 6, 6, 6, 6, 6, 6, 6, 6, 6, 6, 6, 6, 6, 6, 6, 6, 6, 6, 6, 6, 6, 6, 6, 6, 6, 6, 6, 6, 6, 6, 7, 7, 7, 7, 7, 7, 7, 7, 7, 7, 7, 7, 7, 7, 7, 7, 7, 7, 7, 7, 7, 7, 7, 7, 7, 7, 7, 7, 7, 7, 7, 7, 7, 7, 7, 7, 7, 7, 7, 7, 7, 7, 7, 7, 7, 7, 7, 7, 7, 7, 7, 7, 7, 7, 7, 7, 7, 7, 7, 7, 7, 7, 7, 7, 8, 8, 8, 8, 8, 8, 8, 8, 8, 8, 8, 8, 8, 8, 8, 8, 8, 8, 8, 8, 8, 8, 8, 8, 8, 8, 8, 8, 8, 8, 8, 8, 8, 8, 8, 8, 8, 8, 8, 8, 8, 8, 8, 8, 8, 8, 8, 8, 8, 8, 8, 8, 8, 8, 8, 8, 8, 8, 8, 8, 8, 8, 8, 8, 8, 8, 8, 8, 8, 8, 8, 8, 8, 8, 8, 8, 8, 8, 8, 8, 8, 8, 8, 8, 8, 8, 8, 8, 8, 8, 8, 8, 8, 8, 8, 8, 8, 8, 8, 8, 8, 8, 8, 8, 8, 8, 8, 8, 8, 8, 8, 8, 8, 8, 8, 8, 8, 8, 8, 8, 8, 8, 8, 8, 8, 8, 8, 8]⟩⟩)
def q225 : OpdF := kC (.int .u64 (.ofNat (nat_lit 4294967296)))
def q226 : OpdF := kC (.int .u64 (.ofNat (nat_lit 32)))
def q227 : OpdF := kC (.int .i64 (.ofNat (nat_lit 32)))
def q228 : OpdF := kC (.int .u64 (.ofNat (nat_lit 65536)))
def q229 : OpdF := kC (.int .u64 (.ofNat (nat_lit 256)))
noncomputable def k102 : KFun := ⟨[rTmp (nat_lit 2) g2], (kSeq (oSet (xMove q15) p2 
oEnd) (kSeq (kSeq (oSet (xMove g0) p3 
(oSet (xLook (lkBin .geq g3 q225)) p4 
oEnd)) (kCond g4 (kSeq (oSet (xMove g0) p5 
(oSet (xLook (lkBin .shr g5 q226)) p6 
(oSet (xMove g6) p0 
oEnd))) (oSet (xMove q227) p2 
oEnd)) kSkip)) (kSeq (kSeq (oSet (xMove g0) p7 
(oSet (xLook (lkBin .geq g7 q228)) p8 
oEnd)) (kCond g8 (kSeq (oSet (xMove g0) p9 
(oSet (xLook (lkBin .shr g9 q188)) p10 
(oSet (xMove g10) p0 
oEnd))) (oSet (xMove g2) p11 
(oSet (xLook (lkBin .add g11 q187)) p12 
(oSet (xMove g12) p2 
oEnd)))) kSkip)) (kSeq (kSeq (oSet (xMove g0) p13 
(oSet (xLook (lkBin .geq g13 q229)) p14 
oEnd)) (kCond g14 (kSeq (oSet (xMove g0) p15 
(oSet (xLook (lkBin .shr g15 q119)) p16 
(oSet (xMove g16) p0 
oEnd))) (oSet (xMove g2) p17 
(oSet (xLook (lkBin .add g17 q67)) p18 
(oSet (xMove g18) p2 
oEnd)))) kSkip)) (kSeq (oSet (xMove g2) p19 
(oSet (xMove g0) p20 
(oSet (xLook (lkIntTo .u8 g20)) p21 
(oSet (xLook (lkIxStr q224 g21)) p22 
(oSet (xLook (lkIntTo .i64 g22)) p23 
(oSet (xLook (lkBin .add g19 g23)) p24 
(oSet (xMove g24) p2 
oEnd))))))) kRet)))))⟩
def q230 : OpdF := kC (.int .u8 (.ofNat (nat_lit 82)))
def q231 : OpdF := kC (.int .u8 (.ofNat (nat_lit 67)))
def q232 : OpdF := kC (.int .i64 (.ofNat (nat_lit 14)))
def q233 : List Value := [(.slice none (nat_lit 0) (nat_lit 0)), (.int .i64 (.ofNat (nat_lit 0))), (.int .u8 (.ofNat (nat_lit 0))), (.int .u8 (.ofNat (nat_lit 0))), (.int .u8 (.ofNat (nat_lit 0))), (.int .u8 (.ofNat (nat_lit 0))), (.int .u8 (.ofNat (nat_lit 0))), (.int .u8 (.ofNat (nat_lit 0))), (.int .u8 (.ofNat (nat_lit 0))), (.int .u8 (.ofNat (nat_lit 0))), (.int .u8 (.ofNat (nat_lit 0))), (.int .u8 (.ofNat (nat_lit 0))), (.int .u8 (.ofNat (nat_lit 0))), (.int .u8 (.ofNat (nat_lit 0))), (.int .u8 (.ofNat (nat_lit 0))), (.int .u8 (.ofNat (nat_lit 0))), (.int .u8 (.ofNat (nat_lit 0))), (.int .u8 (.ofNat (nat_lit 0))), (.int .u8 (.ofNat (nat_lit 0))), (.int .u8 (.ofNat (nat_lit 0))), (.int .u8 (.ofNat (nat_lit 0))), (.int .u8 (.ofNat (nat_lit 0))), (.int .u8 (.ofNat (nat_lit 0))), (.int .u8 (.ofNat (nat_lit 0))), (.int .u8 (.ofNat (nat_lit 0))), (.int .u8 (.ofNat (nat_lit 0))), (.int .u8 (.ofNat (nat_lit 0))), (.int .u8 (.ofNat (nat_lit 0))), (.int .u8 (.ofNat (nat_lit 0))), (.int .u8 (.ofNat (nat_lit 0))), (.int .u8 (.ofNat (nat_lit 0))), (.int .u8 (.ofNat (nat_lit 0))), (.int .u8 (.ofNat (nat_lit 0))), (.int .u8 (.ofNat (nat_lit 0))), (.int .i64 (.ofNat (nat_lit 0))), (.int .i64 (.ofNat (nat_lit 0)))]
def q234 : OpdF := kC (.func (.func (nat_lit 127)) ⟨[]⟩ ⟨[]⟩)
def q235 : OpdF := kC (.func (.func (nat_lit 128)) ⟨[]⟩ ⟨[]⟩)
noncomputable def k103 : KFun := ⟨[rCellN (nat_lit 2) g2 (nat_lit 35), rTmp (nat_lit 3) g3], (kSeq (oSet (xTurn (tnAlloc q70)) p2 
(oSet (xMove q0) p3 
oEnd)) (kSeq (kSeq (oSet (xMove g0) p6 
(oSet (xLook (lkLen .sl g6)) p7 
(oSet (xLook (lkEq true .int g7 q118)) p8 
(oSet (xMove g8) p9 
(oSetIf (wantF g9) (xMove g0) p10 
(oSetIf (wantF g9) (xLook (lkIxSl (nat_lit 1) g10 q15)) p11 
(oSetIf (wantF g9) (xLook (lkLoad1 g11)) p12 
(oSetIf (wantF g9) (xLook (lkEq true .int g12 q230)) p13 
(oSet (xLook (lkPick g9 q13 g13)) p14 
(oSet (xMove g14) p15 
(oSetIf (wantF g15) (xMove g0) p16 
(oSetIf (wantF g15) (xLook (lkIxSl (nat_lit 1) g16 q26)) p17 
(oSetIf (wantF g15) (xLook (lkLoad1 g17)) p18 
(oSetIf (wantF g15) (xLook (lkEq true .int g18 q231)) p19 
(oSet (xLook (lkPick g15 q13 g19)) p20 
oEnd))))))))))))))) (kCond g20 (kSeq (oSet (xLook (lkBuild q70 [])) p21 
(oDo (xTurn (tnStore (nat_lit 35) g2 g21)) 
(oSet (xMove q0) p3 
oEnd))) kRet) kSkip)) (kSeq (oSet (xMove g0) p22 
(oSet (xLook (lkSliceSl (nat_lit 1) g22 none (some q219) none)) p23 
(oSet (xCall q84 [g23]) p24 
(oSet (xTurn (tnAlloc q8)) p4 
(oDo (xTurn (tnStore (nat_lit 32) g4 g24)) 
oEnd))))) (kSeq (kSeq (kDraw 
(dLook (nat_lit 0) [] [] (lkSliceArr (nat_lit 32) (nat_lit 1) g4 none (some q232) none) p25 
(dLook (nat_lit 1) [] [] (lkMove g0) p26 
(dLook (nat_lit 2) [] [] (lkSliceSl (nat_lit 1) g26 (some q219) none none) p27 
(dTurn (nat_lit 3) [] [] true (xCall q124 [g25, g27]) p28 
(dLook (nat_lit 4) [] [(nat_lit 3)] (lkUn .not g28) p29 (dEnd [(nat_lit 25), (nat_lit 26), (nat_lit 27), (nat_lit 28), (nat_lit 29)]))))))) (kCond g29 (kSeq (oSet (xLook (lkBuild q70 [])) p30 
(oDo (xTurn (tnStore (nat_lit 35) g2 g30)) 
(oSet (xMove q0) p3 
oEnd))) kRet) kSkip)) (kSeq (oSet (xMove g0) p31 
(oSet (xLook (lkSliceSl (nat_lit 1) g31 (some q18) none none)) p32 
(oSet (xLook (lkBuild q83 [((nat_lit 0), (nat_lit 1), g32)])) p33 
(oSet (xLook (lkBuild q233 [((nat_lit 0), (nat_lit 1), g33)])) p34 
(oSet (xTurn (tnBox g34)) p35 
(oSet (xMove g35) p5 
oEnd)))))) (kSeq (kSeq (oSet (xMove g5) p36 
(oSet (xNil g36) p37 
(oSet (xLook (lkFieldAddr (nat_lit 0) g37)) p38 
(oSet (xLook (lkFieldAddr (nat_lit 0) g38)) p39 
(oSet (xLook (lkLoad1 g39)) p40 
(oSet (xLook (lkIxSl (nat_lit 1) g40 q15)) p41 
(oSet (xLook (lkLoad1 g41)) p42 
(oSet (xLook (lkEq true .int g42 q53)) p43 
oEnd)))))))) (kCond g43 (kSeq (oSet (xLook (lkBuild q70 [])) p44 
(oDo (xTurn (tnStore (nat_lit 35) g2 g44)) 
(oSet (xMove q0) p3 
oEnd))) kRet) kSkip)) (kSeq (oSet (xMove g5) p45 
(oSet (xMove g5) p46 
(oSet (xNil g46) p47 
(oSet (xLook (lkFieldAddr (nat_lit 0) g47)) p48 
(oSet (xCall q234 [g48, q67]) p49 
(oSet (xNil g45) p50 
(oSet (xLook (lkFieldAddr (nat_lit 1) g50)) p51 
(oSet (xLook (lkFieldAddr (nat_lit 0) g51)) p52 
(oDo (xTurn (tnStore (nat_lit 1) g52 g49)) 
oEnd))))))))) (kSeq (kDraw 
(dLook (nat_lit 0) [] [] (lkMove g5) p53 
(dTurn (nat_lit 1) [] [] false (xNil g53) p54 
(dLook (nat_lit 2) [] [] (lkFieldAddr (nat_lit 1) g54) p55 
(dLook (nat_lit 3) [] [] (lkFieldAddr (nat_lit 1) g55) p56 
(dLook (nat_lit 4) [] [] (lkSliceArr (nat_lit 32) (nat_lit 1) g56 none none none) p57 
(dLook (nat_lit 5) [] [] (lkMove g5) p58 
(dTurn (nat_lit 6) [] [] false (xNil g58) p59 
(dLook (nat_lit 7) [] [] (lkFieldAddr (nat_lit 0) g59) p60 
(dLook (nat_lit 8) [] [] (lkFieldAddr (nat_lit 0) g60) p61 
(dLook (nat_lit 9) [] [] (lkLoad1 g61) p62 
(dTurn (nat_lit 10) [] [] true (xTurn (tnCopy (nat_lit 1) g57 g62)) p63 (dEnd [(nat_lit 53), (nat_lit 54), (nat_lit 55), (nat_lit 56), (nat_lit 57), (nat_lit 58), (nat_lit 59), (nat_lit 60), (nat_lit 61), (nat_lit 62), (nat_lit 63)]))))))))))))) (kSeq (oSet (xMove g5) p64 
(oSet (xMove g5) p65 
(oSet (xNil g65) p66 
(oSet (xLook (lkFieldAddr (nat_lit 0) g66)) p67 
(oSet (xLook (lkFieldAddr (nat_lit 0) g67)) p68 
(oSet (xLook (lkLoad1 g68)) p69 
(oSet (xLook (lkSliceSl (nat_lit 1) g69 (some q227) none none)) p70 
(oSet (xNil g64) p71 
(oSet (xLook (lkFieldAddr (nat_lit 0) g71)) p72 
(oSet (xLook (lkFieldAddr (nat_lit 0) g72)) p73 
(oDo (xTurn (tnStore (nat_lit 1) g73 g70)) 
oEnd))))))))))) (kSeq (kDraw 
(dLook (nat_lit 0) [] [] (lkMove g5) p74 
(dLook (nat_lit 1) [] [] (lkMove g5) p75 
(dLook (nat_lit 2) [] [] (lkMove g5) p76 
(dTurn (nat_lit 3) [] [] false (xNil g76) p77 
(dLook (nat_lit 4) [] [] (lkFieldAddr (nat_lit 0) g77) p78 
(dTurn (nat_lit 5) [] [] true (xCall q234 [g78, q66]) p79 
(dLook (nat_lit 6) [] [] (lkMove g5) p80 
(dTurn (nat_lit 7) [] [] false (xNil g80) p81 
(dLook (nat_lit 8) [] [] (lkFieldAddr (nat_lit 0) g81) p82 
(dTurn (nat_lit 9) [] [(nat_lit 5)] true (xCall q234 [g82, q66]) p83 
(dTurn (nat_lit 10) [] [(nat_lit 5), (nat_lit 9)] false (xNil g74) p84 
(dLook (nat_lit 11) [] [(nat_lit 5), (nat_lit 9)] (lkFieldAddr (nat_lit 1) g84) p85 
(dLook (nat_lit 12) [] [(nat_lit 5), (nat_lit 9)] (lkFieldAddr (nat_lit 33) g85) p86 
(dTurn (nat_lit 13) [] [(nat_lit 5), (nat_lit 9)] true (xTurn (tnStore (nat_lit 1) g86 g79)) noDst 
(dTurn (nat_lit 14) [] [(nat_lit 5), (nat_lit 9), (nat_lit 13)] false (xNil g75) p87 
(dLook (nat_lit 15) [] [(nat_lit 5), (nat_lit 9), (nat_lit 13)] (lkFieldAddr (nat_lit 1) g87) p88 
(dLook (nat_lit 16) [] [(nat_lit 5), (nat_lit 9), (nat_lit 13)] (lkFieldAddr (nat_lit 34) g88) p89 
(dTurn (nat_lit 17) [] [(nat_lit 5), (nat_lit 9), (nat_lit 13)] true (xTurn (tnStore (nat_lit 1) g89 g83)) noDst (dEnd [(nat_lit 74), (nat_lit 75), (nat_lit 76), (nat_lit 77), (nat_lit 78), (nat_lit 79), (nat_lit 80), (nat_lit 81), (nat_lit 82), (nat_lit 83), (nat_lit 84), (nat_lit 85), (nat_lit 86), (nat_lit 87), (nat_lit 88), (nat_lit 89)])))))))))))))))))))) (kSeq (kSeq (oSet (xMove g5) p90 
(oSet (xNil g90) p91 
(oSet (xLook (lkFieldAddr (nat_lit 1) g91)) p92 
(oSet (xLook (lkLoadN (nat_lit 35) g92)) p93 
(oSet (xCall q235 [g93]) p94 
(oSet (xLook (lkEq true .int g94 q15)) p95 
oEnd)))))) (kCond g95 (kSeq (oSet (xLook (lkBuild q70 [])) p96 
(oDo (xTurn (tnStore (nat_lit 35) g2 g96)) 
(oSet (xMove q0) p3 
oEnd))) kRet) kSkip)) (kSeq (oSet (xMove g5) p97 
(oSet (xNil g97) p98 
(oSet (xLook (lkFieldAddr (nat_lit 1) g98)) p99 
(oSet (xLook (lkLoadN (nat_lit 35) g99)) p100 
(oDo (xTurn (tnStore (nat_lit 35) g2 g100)) 
(oSet (xMove q13) p3 
oEnd)))))) kRet))))))))))))⟩
def q236 : List Value := [(.bool false)]
noncomputable def k104 : KFun := ⟨[rCell1 (nat_lit 4) g4], (kSeq (oSet (xTurn (tnBox g0)) p2 
(oSet (xTurn (tnAlloc q236)) p4 
oEnd)) (kSeq (kSeq (oSet (xLook (lkLoad1 g2)) p6 
(oSet (xLook (lkEq false .ptr g6 q4)) p7 
(oSet (xMove g7) p8 
(oSetIf (wantF g8) (xLook (lkLoad1 g2)) p9 
(oSetIf (wantF g8) (xNil g9) p10 
(oSetIf (wantF g8) (xLook (lkFieldAddr (nat_lit 0) g10)) p11 
(oSetIf (wantF g8) (xCall q172 [g11]) p12 
(oSet (xLook (lkPick g8 q13 g12)) p13 
(oSet (xMove g13) p14 
(oSetIf (wantF g14) (xLook (lkLoad1 g2)) p15 
(oSetIf (wantF g14) (xNil g15) p16 
(oSetIf (wantF g14) (xLook (lkFieldAddr (nat_lit 0) g16)) p17 
(oSetIf (wantF g14) (xLook (lkFieldAddr (nat_lit 2) g17)) p18 
(oSetIf (wantF g14) (xLook (lkFieldAddr (nat_lit 0) g18)) p19 
(oSetIf (wantF g14) (xLook (lkLoad1 g19)) p20 
(oSetIf (wantF g14) (xLook (lkEq true .int g20 q15)) p21 
(oSet (xLook (lkPick g14 q13 g21)) p22 
oEnd))))))))))))))))) (kCond g22 (kSeq (oDo (xTurn (tnStore (nat_lit 1) g4 q0)) 
oEnd) kRet) kSkip)) (kSeq (oSet (xLook (lkLoad1 g2)) p23 
(oSet (xNil g23) p24 
(oSet (xLook (lkFieldAddr (nat_lit 4) g24)) p25 
(oSet (xLook (lkLoad1 g25)) p26 
(oSet (xTurn (tnAlloc q170)) p5 
(oDo (xTurn (tnStore (nat_lit 1) g5 g26)) 
oEnd)))))) (kSeq (oSet (xLook (lkMkFunc (.func (nat_lit 129)) [] [g4, g5, g2])) p27 
(oDo (xDefer g27 []) 
oEnd)) (kSeq (oSet (xMove g1) p28 
(oSet (xCall g28 []) p29 
oEnd)) kRet)))))⟩
def q237 : OpdF := kC (.func (.func (nat_lit 106)) ⟨[]⟩ ⟨[]⟩)
noncomputable def k105 : KFun := ⟨[], (oSet (xLook (lkLoad1 g0)) p3 
(oSet (xLook (lkLoad1 g1)) p4 
(oSet (xCall q237 [g3, q15, g4, q2]) p5 
(oDo (xTurn (tnStore (nat_lit 1) g2 g5)) 
oEnd))))⟩
def q238 : OpdF := kC (.func (.func (nat_lit 108)) ⟨[]⟩ ⟨[]⟩)
def q239 : OpdF := kC (.int .u8 (.ofNat (nat_lit 127)))
noncomputable def k106 : KFun := ⟨[rTmp (nat_lit 8) g8], (kSeq (oSet (xMove q15) p8 
oEnd) (kSeq (oSet (xMove g0) p14 
(oSet (xNil g14) p15 
(oSet (xLook (lkFieldAddr (nat_lit 4) g15)) p16 
(oSet (xLook (lkLoad1 g16)) p17 
(oSet (xTurn (tnAlloc q170)) p9 
(oDo (xTurn (tnStore (nat_lit 1) g9 g17)) 
(oSet (xMove q15) p10 
(oSet (xMove q15) p11 
oEnd)))))))) (kSeq (oSet (xLook (lkMkFunc (.func (nat_lit 130)) [] [g9])) p18 
(oSet (xMove g18) p12 
oEnd)) (kSeq (kBlock (nat_lit 0) (kLoop (kBlock (nat_lit 1) (kSeq (oSet (xMove g0) p19 
(oSet (xCall q238 [g19, q26]) p20 
(oSet (xLook (lkIxSl (nat_lit 1) g20 q15)) p21 
(oSet (xLook (lkLoad1 g21)) p22 
(oSet (xMove g22) p13 
oEnd))))) (kSeq (oSet (xMove g10) p23 
(oSet (xMove g13) p24 
(oSet (xLook (lkBin .and g24 q239)) p25 
(oSet (xLook (lkIntTo .i64 g25)) p26 
(oSet (xMove g11) p27 
(oSet (xLook (lkBin .mul q195 g27)) p28 
(oSet (xLook (lkBin .shl g26 g28)) p29 
(oSet (xLook (lkBin .or g23 g29)) p30 
(oSet (xMove g30) p10 
oEnd))))))))) (kSeq (oSet (xMove g11) p31 
(oSet (xLook (lkBin .add g31 q26)) p32 
(oSet (xMove g32) p11 
oEnd))) (kSeq (kSeq (oSet (xMove g13) p33 
(oSet (xLook (lkBin .lss g33 q142)) p34 
oEnd)) (kCond g34 (kSeq (kSeq (oSet (xMove g13) p35 
(oSet (xLook (lkEq false .int g35 q53)) p36 
(oSet (xMove g36) p37 
(oSetIf (wantT g37) (xMove g11) p38 
(oSetIf (wantT g37) (xLook (lkBin .gtr g38 q26)) p39 
(oSet (xLook (lkPick g37 g39 q0)) p40 
oEnd)))))) (kCond g40 (oSet (xMove g12) p41 
(oSet (xCall g41 [q66]) p42 
oEnd)) kSkip)) (kExit (nat_lit 0))) kSkip)) (kSeq (oSet (xMove g11) p43 
(oSet (xLook (lkEq false .int g43 q120)) p44 
oEnd)) (kCond g44 (oSet (xMove g12) p45 
(oSet (xCall g45 [q44]) p46 
oEnd)) kSkip))))))))) (kSeq (kBlock (nat_lit 2) (kSeq (oSet (xMove g10) p48 
(oSet (xMove g1) p49 
(oSet (xLook (lkBin .lss g48 g49)) p50 
(oSet (xMove g50) p47 
oEnd)))) (kCond g47 (oSet (xMove g12) p51 
(oSet (xCall g51 [q44]) p52 
oEnd)) (kSeq (oSet (xMove g10) p54 
(oSet (xMove g2) p55 
(oSet (xLook (lkBin .gtr g54 g55)) p56 
(oSet (xMove g56) p53 
oEnd)))) (kCond g53 (oSet (xMove g12) p57 
(oSet (xMove g3) p58 
(oSet (xCall g57 [g58]) p59 
oEnd))) kSkip))))) (kSeq (oSet (xMove g10) p60 
(oSet (xMove g60) p8 
oEnd)) kRet))))))⟩
noncomputable def k108 : KFun := ⟨[rTmp (nat_lit 4) g4], (kSeq (oSet (xMove q19) p4 
oEnd) (kSeq (kSeq (kDraw 
(dLook (nat_lit 0) [] [] (lkMove g1) p5 
(dLook (nat_lit 1) [] [] (lkMove g0) p6 
(dTurn (nat_lit 2) [] [] false (xNil g6) p7 
(dLook (nat_lit 3) [] [] (lkFieldAddr (nat_lit 0) g7) p8 
(dLook (nat_lit 4) [] [] (lkFieldAddr (nat_lit 1) g8) p9 
(dLook (nat_lit 5) [] [] (lkLoad1 g9) p10 
(dLook (nat_lit 6) [] [] (lkLen .sl g10) p11 
(dLook (nat_lit 7) [] [] (lkMove g0) p12 
(dTurn (nat_lit 8) [] [] false (xNil g12) p13 
(dLook (nat_lit 9) [] [] (lkFieldAddr (nat_lit 4) g13) p14 
(dLook (nat_lit 10) [] [] (lkLoad1 g14) p15 
(dLook (nat_lit 11) [] [] (lkBin .sub g11 g15) p16 
(dLook (nat_lit 12) [] [] (lkBin .gtr g5 g16) p17 (dEnd [(nat_lit 5), (nat_lit 6), (nat_lit 7), (nat_lit 8), (nat_lit 9), (nat_lit 10), (nat_lit 11), (nat_lit 12), (nat_lit 13), (nat_lit 14), (nat_lit 15), (nat_lit 16), (nat_lit 17)]))))))))))))))) (kCond g17 (oSet (xMove g0) p18 
(oSet (xNil g18) p19 
(oSet (xLook (lkFieldAddr (nat_lit 0) g19)) p20 
(oSet (xLook (lkFieldAddr (nat_lit 1) g20)) p21 
(oSet (xLook (lkLoad1 g21)) p22 
(oSet (xLook (lkLen .sl g22)) p23 
(oSet (xLook (lkBuild q72 [((nat_lit 0), (nat_lit 1), q66), ((nat_lit 1), (nat_lit 1), g23)])) p24 
(oSet (xLook (lkBuild q72 [((nat_lit 0), (nat_lit 2), g24)])) p25 
(oSet (xLook (lkMkIface (nat_lit 226) g25)) p26 
(oDo (xPanic g26) 
oEnd)))))))))) kSkip)) (kSeq (oSet (xMove g0) p27 
(oSet (xNil g27) p28 
(oSet (xLook (lkFieldAddr (nat_lit 4) g28)) p29 
(oSet (xLook (lkLoad1 g29)) p30 
(oSet (xMove g1) p31 
(oSet (xLook (lkBin .add g30 g31)) p32 
(oSet (xNil g27) p33 
(oSet (xLook (lkFieldAddr (nat_lit 4) g33)) p34 
(oDo (xTurn (tnStore (nat_lit 1) g34 g32)) 
oEnd))))))))) (kSeq (kDraw 
(dLook (nat_lit 0) [] [] (lkMove g0) p35 
(dTurn (nat_lit 1) [] [] false (xNil g35) p36 
(dLook (nat_lit 2) [] [] (lkFieldAddr (nat_lit 0) g36) p37 
(dLook (nat_lit 3) [] [] (lkFieldAddr (nat_lit 1) g37) p38 
(dLook (nat_lit 4) [] [] (lkLoad1 g38) p39 
(dLook (nat_lit 5) [] [] (lkMove g0) p40 
(dTurn (nat_lit 6) [] [] false (xNil g40) p41 
(dLook (nat_lit 7) [] [] (lkFieldAddr (nat_lit 4) g41) p42 
(dLook (nat_lit 8) [] [] (lkLoad1 g42) p43 
(dLook (nat_lit 9) [] [] (lkMove g1) p44 
(dLook (nat_lit 10) [] [] (lkBin .sub g43 g44) p45 
(dLook (nat_lit 11) [] [] (lkMove g0) p46 
(dTurn (nat_lit 12) [] [] false (xNil g46) p47 
(dLook (nat_lit 13) [] [] (lkFieldAddr (nat_lit 4) g47) p48 
(dLook (nat_lit 14) [] [] (lkLoad1 g48) p49 
(dLook (nat_lit 15) [] [] (lkSliceSl (nat_lit 1) g39 (some g45) (some g49) none) p50 
(dLook (nat_lit 16) [] [] (lkMove g50) p4 (dEnd [(nat_lit 35), (nat_lit 36), (nat_lit 37), (nat_lit 38), (nat_lit 39), (nat_lit 40), (nat_lit 41), (nat_lit 42), (nat_lit 43), (nat_lit 44), (nat_lit 45), (nat_lit 46), (nat_lit 47), (nat_lit 48), (nat_lit 49), (nat_lit 50), (nat_lit 4)]))))))))))))))))))) kRet))))⟩
noncomputable def k109 : KFun := ⟨[], (oSet (xLook (lkLoad1 g0)) p4 
(oSet (xLook (lkLoad1 g1)) p5 
(oSet (xLook (lkLoad1 g2)) p6 
(oSet (xCall q237 [g4, g5, g6, q44]) p7 
(oDo (xTurn (tnStore (nat_lit 1) g3 g7)) 
oEnd)))))⟩
noncomputable def k110 : KFun := ⟨[rTmp (nat_lit 2) g2], (kSeq (oSet (xMove q0) p2 
oEnd) (kSeq (oSet (xMove g0) p3 
(oSet (xLook (lkEq false .ptr g3 q4)) p4 
(oSet (xMove g4) p5 
(oSetIf (wantF g5) (xMove g0) p6 
(oSetIf (wantF g5) (xNil g6) p7 
(oSetIf (wantF g5) (xLook (lkFieldAddr (nat_lit 0) g7)) p8 
(oSetIf (wantF g5) (xLook (lkLoad1 g8)) p9 
(oSetIf (wantF g5) (xLook (lkUn .not g9)) p10 
(oSet (xLook (lkPick g5 q13 g10)) p11 
(oSet (xMove g11) p2 
oEnd)))))))))) kRet))⟩
noncomputable def k111 : KFun := ⟨[rTmp (nat_lit 2) g2], (kSeq (oSet (xMove q15) p2 
oEnd) (kSeq (kSeq (oSet (xMove g0) p3 
(oSet (xLook (lkEq false .ptr g3 q4)) p4 
(oSet (xMove g4) p5 
(oSetIf (wantF g5) (xMove g0) p6 
(oSetIf (wantF g5) (xNil g6) p7 
(oSetIf (wantF g5) (xLook (lkFieldAddr (nat_lit 0) g7)) p8 
(oSetIf (wantF g5) (xCall q172 [g8]) p9 
(oSet (xLook (lkPick g5 q13 g9)) p10 
oEnd)))))))) (kCond g10 (kSeq (oSet (xMove q15) p2 
oEnd) kRet) kSkip)) (kSeq (kDraw 
(dLook (nat_lit 0) [] [] (lkMove g0) p11 
(dTurn (nat_lit 1) [] [] false (xNil g11) p12 
(dLook (nat_lit 2) [] [] (lkFieldAddr (nat_lit 0) g12) p13 
(dLook (nat_lit 3) [] [] (lkFieldAddr (nat_lit 1) g13) p14 
(dLook (nat_lit 4) [] [] (lkLoad1 g14) p15 
(dLook (nat_lit 5) [] [] (lkLen .sl g15) p16 
(dLook (nat_lit 6) [] [] (lkMove g0) p17 
(dTurn (nat_lit 7) [] [] false (xNil g17) p18 
(dLook (nat_lit 8) [] [] (lkFieldAddr (nat_lit 4) g18) p19 
(dLook (nat_lit 9) [] [] (lkLoad1 g19) p20 
(dLook (nat_lit 10) [] [] (lkBin .sub g16 g20) p21 
(dLook (nat_lit 11) [] [] (lkMove g21) p2 (dEnd [(nat_lit 11), (nat_lit 12), (nat_lit 13), (nat_lit 14), (nat_lit 15), (nat_lit 16), (nat_lit 17), (nat_lit 18), (nat_lit 19), (nat_lit 20), (nat_lit 21), (nat_lit 2)])))))))))))))) kRet)))⟩
noncomputable def k114 : KFun := ⟨[rTmp (nat_lit 4) g4], (kSeq (oSet (xMove q15) p4 
oEnd) (kSeq (kSeq (oSet (xMove g0) p6 
(oSet (xLook (lkLen .sl g6)) p7 
(oSet (xMove q15) p8 
oEnd))) (kBlock (nat_lit 0) (kLoop (kSeq (oSet (xLook (lkBin .lss g8 g7)) p9 
oEnd) (kSeq (kCond g9 kSkip (kExit (nat_lit 0))) (kSeq (kBlock (nat_lit 1) (kSeq (oSet (xMove g8) p10 
(oSet (xMove g10) p5 
oEnd)) (kSeq (oSet (xMove g1) p11 
(oSet (xMove g0) p12 
(oSet (xMove g5) p13 
(oSet (xLook (lkIxSl (nat_lit 35) g12 g13)) p14 
(oSet (xLook (lkLoadN (nat_lit 35) g14)) p15 
(oSet (xCall g11 [g15]) p16 
oEnd)))))) (kCond g16 (kSeq (oSet (xMove g5) p17 
(oSet (xMove g17) p4 
oEnd)) kRet) kSkip)))) (oSet (xLook (lkBin .add g8 q26)) p18 
(oSet (xMove g18) p8 
oEnd)))))))) (kSeq (oSet (xMove q62) p4 
oEnd) kRet)))⟩
noncomputable def k115 : KFun := ⟨[rTmp (nat_lit 3) g3], (kSeq (oSet (xTurn (tnBox g0)) p2 
(oSet (xMove q0) p3 
oEnd)) (kSeq (oSet (xLook (lkFieldAddr (nat_lit 2) g2)) p4 
(oSet (xLook (lkLoadN (nat_lit 32) g4)) p5 
(oSet (xLook (lkLoadN (nat_lit 32) g1)) p6 
(oSet (xLook (lkEq false (.flat [(.int .u8), (.int .u8), (.int .u8), (.int .u8), (.int .u8), (.int .u8), (.int .u8), (.int .u8), (.int .u8), (.int .u8), (.int .u8), (.int .u8), (.int .u8), (.int .u8), (.int .u8), (.int .u8), (.int .u8), (.int .u8), (.int .u8), (.int .u8), (.int .u8), (.int .u8), (.int .u8), (.int .u8), (.int .u8), (.int .u8), (.int .u8), (.int .u8), (.int .u8), (.int .u8), (.int .u8), (.int .u8)]) g5 g6)) p7 
(oSet (xMove g7) p3 
oEnd))))) kRet))⟩
def q242 : OpdF := kC (.int .u32 (.ofNat (nat_lit 0)))
def q243 : OpdF := kC (.func (.func (nat_lit 133)) ⟨[]⟩ ⟨[]⟩)
noncomputable def k116 : KFun := ⟨[rTmp (nat_lit 4) g4], (kSeq (oSet (xMove q242) p4 
oEnd) (kSeq (oSet (xMove g0) p5 
(oSet (xMove g1) p6 
(oSet (xLook (lkUn .neg g6)) p7 
(oSet (xCall q243 [g5, g7]) p8 
(oSet (xMove g8) p4 
oEnd))))) kRet))⟩
def q244 : OpdF := kC (.int .u32 (.ofNat (nat_lit 1116352408)))
def q245 : OpdF := kC (.int .u32 (.ofNat (nat_lit 1899447441)))
def q246 : OpdF := kC (.int .u32 (.ofNat (nat_lit 3049323471)))
def q247 : OpdF := kC (.int .u32 (.ofNat (nat_lit 3921009573)))
def q248 : OpdF := kC (.int .u32 (.ofNat (nat_lit 961987163)))
def q249 : OpdF := kC (.int .u32 (.ofNat (nat_lit 1508970993)))
def q250 : OpdF := kC (.int .u32 (.ofNat (nat_lit 2453635748)))
def q251 : OpdF := kC (.int .u32 (.ofNat (nat_lit 2870763221)))
def q252 : OpdF := kC (.int .u32 (.ofNat (nat_lit 3624381080)))
def q253 : OpdF := kC (.int .u32 (.ofNat (nat_lit 310598401)))
def q254 : OpdF := kC (.int .u32 (.ofNat (nat_lit 607225278)))
def q255 : OpdF := kC (.int .u32 (.ofNat (nat_lit 1426881987)))
def q256 : OpdF := kC (.int .u32 (.ofNat (nat_lit 1925078388)))
def q257 : OpdF := kC (.int .u32 (.ofNat (nat_lit 2162078206)))
def q258 : OpdF := kC (.int .u32 (.ofNat (nat_lit 2614888103)))
def q259 : OpdF := kC (.int .u32 (.ofNat (nat_lit 3248222580)))
def q260 : OpdF := kC (.int .u32 (.ofNat (nat_lit 3835390401)))
def q261 : OpdF := kC (.int .u32 (.ofNat (nat_lit 4022224774)))
def q262 : OpdF := kC (.int .u32 (.ofNat (nat_lit 264347078)))
def q263 : OpdF := kC (.int .u32 (.ofNat (nat_lit 604807628)))
def q264 : OpdF := kC (.int .u32 (.ofNat (nat_lit 770255983)))
def q265 : OpdF := kC (.int .u32 (.ofNat (nat_lit 1249150122)))
def q266 : OpdF := kC (.int .u32 (.ofNat (nat_lit 1555081692)))
def q267 : OpdF := kC (.int .u32 (.ofNat (nat_lit 1996064986)))
def q268 : OpdF := kC (.int .u32 (.ofNat (nat_lit 2554220882)))
def q269 : OpdF := kC (.int .u32 (.ofNat (nat_lit 2821834349)))
def q270 : OpdF := kC (.int .u32 (.ofNat (nat_lit 2952996808)))
def q271 : OpdF := kC (.int .u32 (.ofNat (nat_lit 3210313671)))
def q272 : OpdF := kC (.int .u32 (.ofNat (nat_lit 3336571891)))
def q273 : OpdF := kC (.int .u32 (.ofNat (nat_lit 3584528711)))
def q274 : OpdF := kC (.int .u32 (.ofNat (nat_lit 113926993)))
def q275 : OpdF := kC (.int .u32 (.ofNat (nat_lit 338241895)))
def q276 : OpdF := kC (.int .u32 (.ofNat (nat_lit 666307205)))
def q277 : OpdF := kC (.int .u32 (.ofNat (nat_lit 773529912)))
def q278 : OpdF := kC (.int .u32 (.ofNat (nat_lit 1294757372)))
def q279 : OpdF := kC (.int .u32 (.ofNat (nat_lit 1396182291)))
def q280 : OpdF := kC (.int .u32 (.ofNat (nat_lit 1695183700)))
def q281 : OpdF := kC (.int .u32 (.ofNat (nat_lit 1986661051)))
def q282 : OpdF := kC (.int .u32 (.ofNat (nat_lit 2177026350)))
def q283 : OpdF := kC (.int .u32 (.ofNat (nat_lit 2456956037)))
def q284 : OpdF := kC (.int .u32 (.ofNat (nat_lit 2730485921)))
def q285 : OpdF := kC (.int .u32 (.ofNat (nat_lit 2820302411)))
def q286 : OpdF := kC (.int .u32 (.ofNat (nat_lit 3259730800)))
def q287 : OpdF := kC (.int .u32 (.ofNat (nat_lit 3345764771)))
def q288 : OpdF := kC (.int .u32 (.ofNat (nat_lit 3516065817)))
def q289 : OpdF := kC (.int .u32 (.ofNat (nat_lit 3600352804)))
def q290 : OpdF := kC (.int .u32 (.ofNat (nat_lit 4094571909)))
def q291 : OpdF := kC (.int .u32 (.ofNat (nat_lit 275423344)))
def q292 : OpdF := kC (.int .u32 (.ofNat (nat_lit 430227734)))
def q293 : OpdF := kC (.int .u32 (.ofNat (nat_lit 506948616)))
def q294 : OpdF := kC (.int .u32 (.ofNat (nat_lit 659060556)))
def q295 : OpdF := kC (.int .u32 (.ofNat (nat_lit 883997877)))
def q296 : OpdF := kC (.int .u32 (.ofNat (nat_lit 958139571)))
def q297 : OpdF := kC (.int .u32 (.ofNat (nat_lit 1322822218)))
def q298 : OpdF := kC (.int .u32 (.ofNat (nat_lit 1537002063)))
def q299 : OpdF := kC (.int .u32 (.ofNat (nat_lit 1747873779)))
def q300 : OpdF := kC (.int .u32 (.ofNat (nat_lit 1955562222)))
def q301 : OpdF := kC (.int .u32 (.ofNat (nat_lit 2024104815)))
def q302 : OpdF := kC (.int .u32 (.ofNat (nat_lit 2227730452)))
def q303 : OpdF := kC (.int .u32 (.ofNat (nat_lit 2361852424)))
def q304 : OpdF := kC (.int .u32 (.ofNat (nat_lit 2428436474)))
def q305 : OpdF := kC (.int .u32 (.ofNat (nat_lit 2756734187)))
def q306 : OpdF := kC (.int .u32 (.ofNat (nat_lit 3204031479)))
def q307 : OpdF := kC (.int .u32 (.ofNat (nat_lit 3329325298)))
noncomputable def k117 : KFun := ⟨[rCellN (nat_lit 0) g0 (nat_lit 64)], (kSeq (oSet (xTurn (tnAlloc q186)) p0 
oEnd) (kSeq (oSet (xLook (lkBuild q186 [((nat_lit 0), (nat_lit 1), q244), ((nat_lit 1), (nat_lit 1), q245), ((nat_lit 2), (nat_lit 1), q246), ((nat_lit 3), (nat_lit 1), q247), ((nat_lit 4), (nat_lit 1), q248), ((nat_lit 5), (nat_lit 1), q249), ((nat_lit 6), (nat_lit 1), q250), ((nat_lit 7), (nat_lit 1), q251), ((nat_lit 8), (nat_lit 1), q252), ((nat_lit 9), (nat_lit 1), q253), ((nat_lit 10), (nat_lit 1), q254), ((nat_lit 11), (nat_lit 1), q255), ((nat_lit 12), (nat_lit 1), q256), ((nat_lit 13), (nat_lit 1), q257), ((nat_lit 14), (nat_lit 1), q258), ((nat_lit 15), (nat_lit 1), q259), ((nat_lit 16), (nat_lit 1), q260), ((nat_lit 17), (nat_lit 1), q261), ((nat_lit 18), (nat_lit 1), q262), ((nat_lit 19), (nat_lit 1), q263), ((nat_lit 20), (nat_lit 1), q264), ((nat_lit 21), (nat_lit 1), q265), ((nat_lit 22), (nat_lit 1), q266), ((nat_lit 23), (nat_lit 1), q267), ((nat_lit 24), (nat_lit 1), q268), ((nat_lit 25), (nat_lit 1), q269), ((nat_lit 26), (nat_lit 1), q270), ((nat_lit 27), (nat_lit 1), q271), ((nat_lit 28), (nat_lit 1), q272), ((nat_lit 29), (nat_lit 1), q273), ((nat_lit 30), (nat_lit 1), q274), ((nat_lit 31), (nat_lit 1), q275), ((nat_lit 32), (nat_lit 1), q276), ((nat_lit 33), (nat_lit 1), q277), ((nat_lit 34), (nat_lit 1), q278), ((nat_lit 35), (nat_lit 1), q279), ((nat_lit 36), (nat_lit 1), q280), ((nat_lit 37), (nat_lit 1), q281), ((nat_lit 38), (nat_lit 1), q282), ((nat_lit 39), (nat_lit 1), q283), ((nat_lit 40), (nat_lit 1), q284), ((nat_lit 41), (nat_lit 1), q285), ((nat_lit 42), (nat_lit 1), q286), ((nat_lit 43), (nat_lit 1), q287), ((nat_lit 44), (nat_lit 1), q288), ((nat_lit 45), (nat_lit 1), q289), ((nat_lit 46), (nat_lit 1), q290), ((nat_lit 47), (nat_lit 1), q291), ((nat_lit 48), (nat_lit 1), q292), ((nat_lit 49), (nat_lit 1), q293), ((nat_lit 50), (nat_lit 1), q294), ((nat_lit 51), (nat_lit 1), q295), ((nat_lit 52), (nat_lit 1), q296), ((nat_lit 53), (nat_lit 1), q297), ((nat_lit 54), (nat_lit 1), q298), ((nat_lit 55), (nat_lit 1), q299), ((nat_lit 56), (nat_lit 1), q300), ((nat_lit 57), (nat_lit 1), q301), ((nat_lit 58), (nat_lit 1), q302), ((nat_lit 59), (nat_lit 1), q303), ((nat_lit 60), (nat_lit 1), q304), ((nat_lit 61), (nat_lit 1), q305), ((nat_lit 62), (nat_lit 1), q306), ((nat_lit 63), (nat_lit 1), q307)])) p1 
(oDo (xTurn (tnStore (nat_lit 64) g0 g1)) 
oEnd)) kRet))⟩
noncomputable def k118 : KFun := ⟨[rTmp (nat_lit 2) g2], (kSeq (oSet (xMove q0) p2 
oEnd) (kSeq (oSet (xMove g0) p3 
(oSet (xLook (lkEq false .ptr g3 q4)) p4 
(oSet (xMove g4) p5 
(oSetIf (wantF g5) (xMove g0) p6 
(oSetIf (wantF g5) (xNil g6) p7 
(oSetIf (wantF g5) (xLook (lkFieldAddr (nat_lit 0) g7)) p8 
(oSetIf (wantF g5) (xCall q172 [g8]) p9 
(oSet (xLook (lkPick g5 q13 g9)) p10 
(oSet (xMove g10) p2 
oEnd))))))))) kRet))⟩
def q308 : OpdF := kC (.func (.func (nat_lit 135)) ⟨[]⟩ ⟨[]⟩)
def q309 : OpdF := kC (.func (.func (nat_lit 134)) ⟨[]⟩ ⟨[]⟩)
noncomputable def k119 : KFun := ⟨[rTmp (nat_lit 4) g4, rTmp (nat_lit 5) g5], (kSeq (oSet (xMove q15) p4 
(oSet (xMove q15) p5 
oEnd)) (kSeq (oSet (xMove g0) p10 
(oSet (xCall q308 [g10]) p11 
(oSet (xMove g1) p12 
(oSet (xCall q309 [g11, g12]) p13 
(oSet (xMove g13) p9 
(oSet (xLook (lkExtract (nat_lit 0) g9)) p14 
(oSet (xLook (lkExtract (nat_lit 1) g9)) p15 
(oSet (xLook (lkExtract (nat_lit 2) g9)) p16 
(oSet (xMove g14) p6 
(oSet (xMove g15) p7 
(oSet (xMove g16) p8 
oEnd))))))))))) (kSeq (kSeq (oSet (xMove g8) p17 
(oSet (xLook (lkEq true .int g17 q15)) p18 
oEnd)) (kCond g18 (kSeq (oSet (xMove q15) p4 
(oSet (xMove q67) p5 
oEnd)) kRet) kSkip)) (kSeq (oSet (xMove g6) p19 
(oSet (xMove g19) p4 
(oSet (xMove q15) p5 
oEnd))) kRet))))⟩
noncomputable def k121 : KFun := ⟨[rTmp (nat_lit 4) g4], (kSeq (oSet (xTurn (tnBox g0)) p2 
(oSet (xTurn (tnBox g1)) p3 
(oSet (xMove q47) p4 
oEnd))) (kSeq (oSet (xTurn (tnAlloc q6)) p5 
(oDo (xTurn (tnStore (nat_lit 1) g5 q47)) 
oEnd)) (kSeq (kSeq (oSet (xLook (lkLoad1 g2)) p6 
(oSet (xLook (lkMkFunc (.func (nat_lit 136)) [] [g2, g3, g5])) p7 
(oSet (xCall q171 [g6, g7]) p8 
(oSet (xLook (lkUn .not g8)) p9 
oEnd)))) (kCond g9 (kSeq (oSet (xMove q47) p4 
oEnd) kRet) kSkip)) (kSeq (oSet (xLook (lkLoad1 g5)) p10 
(oSet (xMove g10) p4 
oEnd)) kRet))))⟩
def q316 : OpdF := kC .nilIface
noncomputable def k129 : KFun := ⟨[], (kSeq (oSet xRecover p6 
oEnd) (kBlock (nat_lit 0) (kSeq (oSet (xLook (lkEq false .ifaceNil g6 q316)) p8 
oEnd) (kCond g8 (kSeq (oSet (xMove g6) p3 
oEnd) (oDo (xTurn (tnStore (nat_lit 1) g0 q13)) 
oEnd)) (kSeq (oSet (xLook (lkAssertT (nat_lit 226) (.agg ⟨[(.int .i64 (.ofNat (nat_lit 0))), (.int .i64 (.ofNat (nat_lit 0)))]⟩) true g6)) p9 
(oSet (xLook (lkExtract (nat_lit 1) g9)) p10 
(oSet (xLook (lkExtract (nat_lit 0) g9)) p11 
oEnd))) (kCond g10 (kSeq (oSet (xTurn (tnAlloc q72)) p4 
(oDo (xTurn (tnStore (nat_lit 2) g4 g11)) 
oEnd)) (kDraw 
(dLook (nat_lit 0) [] [] (lkLoad1 g2) p12 
(dLook (nat_lit 1) [] [] (lkLoad1 g2) p13 
(dLook (nat_lit 2) [] [] (lkLoad1 g1) p14 
(dLook (nat_lit 3) [] [] (lkFieldAddr (nat_lit 0) g4) p15 
(dLook (nat_lit 4) [] [] (lkLoadN (nat_lit 2) g15) p16 
(dTurn (nat_lit 5) [] [] false (xNil g12) p17 
(dLook (nat_lit 6) [] [] (lkFieldAddr (nat_lit 4) g17) p18 
(dTurn (nat_lit 7) [(nat_lit 4)] [] true (xTurn (tnStore (nat_lit 1) g18 g14)) noDst 
(dTurn (nat_lit 8) [] [(nat_lit 7)] false (xNil g13) p19 
(dLook (nat_lit 9) [] [(nat_lit 7)] (lkFieldAddr (nat_lit 0) g19) p20 
(dLook (nat_lit 10) [] [(nat_lit 7)] (lkFieldAddr (nat_lit 2) g20) p21 
(dTurn (nat_lit 11) [] [(nat_lit 7)] true (xTurn (tnStore (nat_lit 2) g21 g16)) noDst (dEnd [(nat_lit 12), (nat_lit 13), (nat_lit 14), (nat_lit 15), (nat_lit 16), (nat_lit 17), (nat_lit 18), (nat_lit 19), (nat_lit 20), (nat_lit 21)]))))))))))))))) (kSeq (oSet (xMove g6) p5 
oEnd) (oSet (xMove g5) p7 
(oDo (xPanic g7) 
oEnd)))))))))⟩
def q326 : OpdF := kC (.int .u64 (.ofNat (nat_lit 31)))
noncomputable def k133 : KFun := ⟨[rTmp (nat_lit 4) g4], (kSeq (oSet (xMove q242) p4 
oEnd) (kSeq (oSet (xMove g1) p6 
(oSet (xLook (lkIntTo .u64 g6)) p7 
(oSet (xLook (lkBin .and g7 q326)) p8 
(oSet (xMove g8) p5 
oEnd)))) (kSeq (oSet (xMove g0) p9 
(oSet (xMove g5) p10 
(oSet (xLook (lkBin .shl g9 g10)) p11 
(oSet (xMove g0) p12 
(oSet (xMove g5) p13 
(oSet (xLook (lkBin .sub q226 g13)) p14 
(oSet (xLook (lkBin .shr g12 g14)) p15 
(oSet (xLook (lkBin .or g11 g15)) p16 
(oSet (xMove g16) p4 
oEnd))))))))) kRet)))⟩
def q327 : OpdF := kC (.func (.func (nat_lit 147)) ⟨[]⟩ ⟨[]⟩)
def q328 : OpdF := kC (.func (.func (nat_lit 148)) ⟨[]⟩ ⟨[]⟩)
def q329 : OpdF := kC (.func (.func (nat_lit 150)) ⟨[]⟩ ⟨[]⟩)
noncomputable def k134 : KFun := ⟨[rTmp (nat_lit 4) g4, rTmp (nat_lit 5) g5, rTmp (nat_lit 6) g6], (kSeq (oSet (xTurn (tnBox g1)) p3 
(oSet (xMove q15) p4 
(oSet (xMove q19) p5 
(oSet (xMove q15) p6 
oEnd)))) (kSeq (kSeq (oSet (xMove g0) p9 
(oSet (xCall q327 [g9]) p10 
(oSet (xLook (lkEq true .int g10 q15)) p11 
(oSet (xMove g11) p12 
(oSetIf (wantF g12) (xLook (lkLoad1 g3)) p13 
(oSetIf (wantF g12) (xLook (lkBin .lss g13 q26)) p14 
(oSet (xLook (lkPick g12 q13 g14)) p15 
oEnd))))))) (kCond g15 (kSeq (oSet (xMove q15) p4 
(oSet (xMove q19) p5 
(oSet (xMove q18) p6 
oEnd))) kRet) kSkip)) (kSeq (oSet (xMove g0) p16 
(oSet (xLook (lkMkFunc (.func (nat_lit 149)) [] [g3])) p17 
(oSet (xCall q328 [g16, g17]) p18 
(oSet (xMove g18) p7 
oEnd)))) (kSeq (kSeq (oSet (xMove g7) p19 
(oSet (xLook (lkBin .lss g19 q15)) p20 
oEnd)) (kCond g20 (kSeq (oSet (xMove q15) p4 
(oSet (xMove q19) p5 
(oSet (xMove q67) p6 
oEnd))) kRet) kSkip)) (kSeq (oSet (xMove g0) p21 
(oSet (xMove g7) p22 
(oSet (xLook (lkIxSl (nat_lit 2) g21 g22)) p23 
(oSet (xLook (lkFieldAddr (nat_lit 0) g23)) p24 
(oSet (xLook (lkLoad1 g24)) p25 
(oSet (xMove g25) p8 
oEnd)))))) (kSeq (oSet (xMove g8) p26 
(oSet (xMove g0) p27 
(oSet (xMove g7) p28 
(oSet (xMove g8) p29 
(oSet (xLook (lkLoad1 g3)) p30 
(oSet (xCall q329 [g27, g28, g29, g30]) p31 
(oSet (xMove g26) p4 
(oSet (xMove g31) p5 
(oSet (xMove q15) p6 
oEnd))))))))) kRet))))))⟩
noncomputable def k135 : KFun := ⟨[rTmp (nat_lit 2) g2], (kSeq (oSet (xMove q19) p2 
oEnd) (kSeq (oSet (xMove g0) p9 
(oSet (xNil g9) p10 
(oSet (xLook (lkFieldAddr (nat_lit 2) g10)) p11 
(oSet (xLook (lkLoad1 g11)) p12 
(oSet (xCall q65 [g12]) p13 
(oSet (xLook (lkBin .sub g13 q18)) p14 
(oSet (xLook (lkBuild q72 [((nat_lit 0), (nat_lit 1), q18), ((nat_lit 1), (nat_lit 1), g14)])) p15 
(oSet (xTurn (tnBuildSlice q72 [((nat_lit 0), (nat_lit 2), g15)] (nat_lit 1))) p16 
(oSet (xTurn (tnAlloc q83)) p3 
(oDo (xTurn (tnStore (nat_lit 1) g3 g16)) 
oEnd)))))))))) (kSeq (oSet (xLook (lkMkFunc (.func (nat_lit 151)) [] [g3])) p17 
(oSet (xMove g17) p4 
oEnd)) (kSeq (kSeq (oSet (xMove g0) p18 
(oSet (xNil g18) p19 
(oSet (xLook (lkFieldAddr (nat_lit 38) g19)) p20 
(oSet (xLook (lkLoad1 g20)) p21 
(oSet (xTurn (tnRangeMap g21)) p22 
oEnd))))) (kBlock (nat_lit 0) (kLoop (kSeq (oSet (xNextMap g22) p23 
(oSet (xLook (lkExtract (nat_lit 0) g23)) p24 
oEnd)) (kSeq (kCond g24 kSkip (kExit (nat_lit 0))) (kBlock (nat_lit 1) (kSeq (oSet (xLook (lkEntry g22)) p25 
(oSet (xLook (lkExtract (nat_lit 1) g25)) p26 
(oSet (xTurn (tnAlloc q72)) p6 
(oDo (xTurn (tnStore (nat_lit 2) g6 g26)) 
oEnd)))) (oSet (xMove g4) p27 
(oSet (xLook (lkLoadN (nat_lit 2) g6)) p28 
(oSet (xCall g27 [g28]) p29 
oEnd)))))))))) (kSeq (kSeq (oSet (xMove g0) p30 
(oSet (xNil g30) p31 
(oSet (xLook (lkFieldAddr (nat_lit 0) g31)) p32 
(oSet (xLook (lkFieldAddr (nat_lit 0) g32)) p33 
(oSet (xLook (lkLoad1 g33)) p34 
(oSet (xLook (lkLen .sl g34)) p35 
(oSet (xMove q15) p36 
oEnd))))))) (kBlock (nat_lit 2) (kLoop (kSeq (oSet (xLook (lkBin .lss g36 g35)) p37 
oEnd) (kSeq (kCond g37 kSkip (kExit (nat_lit 2))) (kSeq (kBlock (nat_lit 3) (kSeq (oSet (xLook (lkIxSl (nat_lit 35) g34 g36)) p38 
(oSet (xLook (lkLoadN (nat_lit 35) g38)) p39 
(oSet (xTurn (tnAlloc q98)) p8 
(oDo (xTurn (tnStore (nat_lit 35) g8 g39)) 
oEnd)))) (oSet (xMove g4) p40 
(oSet (xLook (lkFieldAddr (nat_lit 0) g8)) p41 
(oSet (xLook (lkLoadN (nat_lit 2) g41)) p42 
(oSet (xCall g40 [g42]) p43 
oEnd)))))) (oSet (xLook (lkBin .add g36 q26)) p44 
(oSet (xMove g44) p36 
oEnd)))))))) (kSeq (oSet (xMove g4) p45 
(oSet (xMove g0) p46 
(oSet (xNil g46) p47 
(oSet (xLook (lkFieldAddr (nat_lit 36) g47)) p48 
(oSet (xLook (lkLoadN (nat_lit 2) g48)) p49 
(oSet (xCall g45 [g49]) p50 
oEnd)))))) (kSeq (oSet (xLook (lkLoad1 g3)) p51 
(oSet (xMove g51) p2 
oEnd)) kRet)))))))⟩
noncomputable def k136 : KFun := ⟨[], (kDraw 
(dLook (nat_lit 0) [] [] (lkLoad1 g0) p3 
(dLook (nat_lit 1) [] [] (lkLoad1 g0) p4 
(dLook (nat_lit 2) [] [] (lkLoad1 g1) p5 
(dTurn (nat_lit 3) [(nat_lit 0)] [] true (xCall q237 [g4, q15, g5, q2]) p6 
(dTurn (nat_lit 4) [] [(nat_lit 3)] true (xCall q238 [g3, g6]) p7 
(dLook (nat_lit 5) [] [(nat_lit 3), (nat_lit 4)] (lkBytesTo g7) p8 
(dTurn (nat_lit 6) [] [(nat_lit 3), (nat_lit 4)] true (xTurn (tnStore (nat_lit 1) g2 g8)) noDst (dEnd [(nat_lit 3), (nat_lit 4), (nat_lit 5), (nat_lit 6), (nat_lit 7), (nat_lit 8)])))))))))⟩
def q333 : OpdF := kC (.func (.func (nat_lit 156)) ⟨[]⟩ ⟨[]⟩)
noncomputable def k147 : KFun := ⟨[rTmp (nat_lit 2) g2], (kSeq (oSet (xMove q15) p2 
oEnd) (kSeq (oSet (xMove q62) p3 
oEnd) (kSeq (kSeq (oSet (xMove g0) p6 
(oSet (xLook (lkLen .sl g6)) p7 
(oSet (xMove q15) p8 
oEnd))) (kBlock (nat_lit 0) (kLoop (kSeq (oSet (xLook (lkBin .lss g8 g7)) p9 
oEnd) (kSeq (kCond g9 kSkip (kExit (nat_lit 0))) (kSeq (kBlock (nat_lit 1) (kSeq (oSet (xLook (lkIxSl (nat_lit 2) g6 g8)) p10 
(oSet (xLook (lkLoadN (nat_lit 2) g10)) p11 
(oSet (xTurn (tnAlloc q72)) p5 
(oDo (xTurn (tnStore (nat_lit 2) g5 g11)) 
oEnd)))) (kSeq (kSeq (oSet (xLook (lkFieldAddr (nat_lit 1) g5)) p12 
(oSet (xLook (lkLoad1 g12)) p13 
(oSet (xLook (lkBin .lss g13 q26)) p14 
(oSet (xMove g14) p15 
(oSetIf (wantF g15) (xLook (lkFieldAddr (nat_lit 0) g5)) p16 
(oSetIf (wantF g15) (xLook (lkLoad1 g16)) p17 
(oSetIf (wantF g15) (xMove g3) p18 
(oSetIf (wantF g15) (xLook (lkBin .leq g17 g18)) p19 
(oSet (xLook (lkPick g15 q13 g19)) p20 
(oSet (xMove g20) p21 
(oSetIf (wantF g21) (xLook (lkFieldAddr (nat_lit 0) g5)) p22 
(oSetIf (wantF g21) (xLook (lkLoad1 g22)) p23 
(oSetIf (wantF g21) (xLook (lkBin .lss g23 q15)) p24 
(oSet (xLook (lkPick g21 q13 g24)) p25 
(oSet (xMove g25) p26 
(oSetIf (wantF g26) (xLook (lkFieldAddr (nat_lit 0) g5)) p27 
(oSetIf (wantF g26) (xLook (lkLoad1 g27)) p28 
(oSetIf (wantF g26) (xLook (lkBin .gtr g28 q60)) p29 
(oSet (xLook (lkPick g26 q13 g29)) p30 
(oSet (xMove g30) p31 
(oSetIf (wantF g31) (xLook (lkFieldAddr (nat_lit 1) g5)) p32 
(oSetIf (wantF g31) (xLook (lkLoad1 g32)) p33 
(oSetIf (wantF g31) (xLook (lkFieldAddr (nat_lit 0) g5)) p34 
(oSetIf (wantF g31) (xLook (lkLoad1 g34)) p35 
(oSetIf (wantF g31) (xLook (lkBin .sub q60 g35)) p36 
(oSetIf (wantF g31) (xLook (lkBin .gtr g33 g36)) p37 
(oSet (xLook (lkPick g31 q13 g37)) p38 
oEnd))))))))))))))))))))))))))) (kCond g38 (kSeq (oSet (xMove q18) p2 
oEnd) kRet) kSkip)) (oSet (xLook (lkLoadN (nat_lit 2) g5)) p39 
(oSet (xCall q333 [g39]) p40 
(oSet (xMove g40) p3 
oEnd)))))) (oSet (xLook (lkBin .add g8 q26)) p41 
(oSet (xMove g41) p8 
oEnd)))))))) (kSeq (oSet (xMove q15) p2 
oEnd) kRet))))⟩
noncomputable def k148 : KFun := ⟨[rTmp (nat_lit 4) g4], (kSeq (oSet (xMove q15) p4 
oEnd) (kSeq (kSeq (oSet (xMove g0) p6 
(oSet (xLook (lkLen .sl g6)) p7 
(oSet (xMove q15) p8 
oEnd))) (kBlock (nat_lit 0) (kLoop (kSeq (oSet (xLook (lkBin .lss g8 g7)) p9 
oEnd) (kSeq (kCond g9 kSkip (kExit (nat_lit 0))) (kSeq (kBlock (nat_lit 1) (kSeq (oSet (xMove g8) p10 
(oSet (xMove g10) p5 
oEnd)) (kSeq (oSet (xMove g1) p11 
(oSet (xMove g0) p12 
(oSet (xMove g5) p13 
(oSet (xLook (lkIxSl (nat_lit 2) g12 g13)) p14 
(oSet (xLook (lkLoadN (nat_lit 2) g14)) p15 
(oSet (xCall g11 [g15]) p16 
oEnd)))))) (kCond g16 (kSeq (oSet (xMove g5) p17 
(oSet (xMove g17) p4 
oEnd)) kRet) kSkip)))) (oSet (xLook (lkBin .add g8 q26)) p18 
(oSet (xMove g18) p8 
oEnd)))))))) (kSeq (oSet (xMove q62) p4 
oEnd) kRet)))⟩
noncomputable def k149 : KFun := ⟨[rTmp (nat_lit 3) g3], (kSeq (oSet (xTurn (tnBox g0)) p2 
(oSet (xMove q0) p3 
oEnd)) (kSeq (oSet (xLook (lkFieldAddr (nat_lit 1) g2)) p4 
(oSet (xLook (lkLoad1 g4)) p5 
(oSet (xLook (lkLoad1 g1)) p6 
(oSet (xLook (lkBin .geq g5 g6)) p7 
(oSet (xMove g7) p3 
oEnd))))) kRet))⟩
def q334 : OpdF := kC (.func (.func (nat_lit 158)) ⟨[]⟩ ⟨[]⟩)
def q335 : OpdF := kC (.func (.func (nat_lit 157)) ⟨[]⟩ ⟨[]⟩)
def q336 : OpdF := kC (.func (.func (nat_lit 159)) ⟨[]⟩ ⟨[]⟩)
noncomputable def k150 : KFun := ⟨[rTmp (nat_lit 8) g8], (kSeq (oSet (xMove q19) p8 
oEnd) (kSeq (oSet (xMove g0) p12 
(oSet (xMove g1) p13 
(oSet (xLook (lkIxSl (nat_lit 2) g12 g13)) p14 
(oSet (xLook (lkLoadN (nat_lit 2) g14)) p15 
(oSet (xTurn (tnAlloc q72)) p9 
(oDo (xTurn (tnStore (nat_lit 2) g9 g15)) 
oEnd)))))) (kSeq (oSet (xMove q19) p10 
oEnd) (kSeq (kSeq (oSet (xMove g2) p16 
(oSet (xLook (lkFieldAddr (nat_lit 0) g9)) p17 
(oSet (xLook (lkLoad1 g17)) p18 
(oSet (xLook (lkBin .gtr g16 g18)) p19 
oEnd)))) (kCond g19 (oSet (xMove g10) p20 
(oSet (xLook (lkFieldAddr (nat_lit 0) g9)) p21 
(oSet (xLook (lkLoad1 g21)) p22 
(oSet (xMove g2) p23 
(oSet (xLook (lkFieldAddr (nat_lit 0) g9)) p24 
(oSet (xLook (lkLoad1 g24)) p25 
(oSet (xLook (lkBin .sub g23 g25)) p26 
(oSet (xLook (lkBuild q72 [((nat_lit 0), (nat_lit 1), g22), ((nat_lit 1), (nat_lit 1), g26)])) p27 
(oSet (xTurn (tnBuildSlice q72 [((nat_lit 0), (nat_lit 2), g27)] (nat_lit 1))) p28 
(oSet (xTurn (tnAppend (nat_lit 2) g20 g28)) p29 
(oSet (xMove g29) p10 
oEnd))))))))))) kSkip)) (kSeq (kSeq (oSet (xMove g2) p30 
(oSet (xMove g3) p31 
(oSet (xLook (lkBin .add g30 g31)) p32 
(oSet (xLook (lkLoadN (nat_lit 2) g9)) p33 
(oSet (xCall q333 [g33]) p34 
(oSet (xLook (lkBin .lss g32 g34)) p35 
oEnd)))))) (kCond g35 (oSet (xMove g10) p36 
(oSet (xMove g2) p37 
(oSet (xMove g3) p38 
(oSet (xLook (lkBin .add g37 g38)) p39 
(oSet (xLook (lkLoadN (nat_lit 2) g9)) p40 
(oSet (xCall q333 [g40]) p41 
(oSet (xMove g2) p42 
(oSet (xLook (lkBin .sub g41 g42)) p43 
(oSet (xMove g3) p44 
(oSet (xLook (lkBin .sub g43 g44)) p45 
(oSet (xLook (lkBuild q72 [((nat_lit 0), (nat_lit 1), g39), ((nat_lit 1), (nat_lit 1), g45)])) p46 
(oSet (xTurn (tnBuildSlice q72 [((nat_lit 0), (nat_lit 2), g46)] (nat_lit 1))) p47 
(oSet (xTurn (tnAppend (nat_lit 2) g36 g47)) p48 
(oSet (xMove g48) p10 
oEnd)))))))))))))) kSkip)) (kSeq (oSet (xMove g0) p49 
(oSet (xCall q334 [g49]) p50 
(oSet (xMove g1) p51 
(oSet (xMove g1) p52 
(oSet (xLook (lkBin .add g52 q26)) p53 
(oSet (xCall q335 [g50, g51, g53]) p54 
(oSet (xMove g54) p11 
oEnd))))))) (kSeq (oSet (xMove g11) p55 
(oSet (xMove g1) p56 
(oSet (xMove g10) p57 
(oSet (xCall q336 [g55, g56, g57]) p58 
(oSet (xMove g58) p8 
oEnd))))) kRet)))))))⟩
def q337 : OpdF := kC (.func (.func (nat_lit 152)) ⟨[]⟩ ⟨[]⟩)
noncomputable def k151 : KFun := ⟨[], (kSeq (oSet (xTurn (tnBox g0)) p2 
oEnd) (kSeq (oSet (xLook (lkLoadN (nat_lit 2) g2)) p4 
(oSet (xCall q76 [g4]) p5 
(oSet (xMove g5) p3 
oEnd))) (kSeq (oSet (xMove g3) p6 
(oSet (xLook (lkBin .gtr g6 q15)) p7 
(oSet (xMove g7) p8 
(oSetIf (wantT g8) (xLook (lkFieldAddr (nat_lit 0) g2)) p9 
(oSetIf (wantT g8) (xLook (lkLoad1 g9)) p10 
(oSetIf (wantT g8) (xLook (lkBin .gtr g10 q15)) p11 
(oSet (xLook (lkPick g8 g11 q0)) p12 
oEnd))))))) (kCond g12 (oSet (xLook (lkLoad1 g1)) p14 
(oSet (xLook (lkFieldAddr (nat_lit 0) g2)) p15 
(oSet (xLook (lkLoad1 g15)) p16 
(oSet (xMove g3) p17 
(oSet (xCall q337 [g14, g16, g17]) p18 
(oSet (xMove g18) p13 
(oSet (xLook (lkExtract (nat_lit 0) g13)) p19 
(oSet (xLook (lkExtract (nat_lit 1) g13)) p20 
(oDo (xTurn (tnStore (nat_lit 1) g1 g19)) 
oEnd))))))))) kSkip))))⟩
def q338 : OpdF := kC (.func (.func (nat_lit 160)) ⟨[]⟩ ⟨[]⟩)
def q339 : OpdF := kC (.func (.func (nat_lit 161)) ⟨[]⟩ ⟨[]⟩)
noncomputable def k152 : KFun := ⟨[rTmp (nat_lit 6) g6, rTmp (nat_lit 7) g7], (kSeq (oSet (xMove q19) p6 
(oSet (xMove q15) p7 
oEnd)) (kSeq (kSeq (oSet (xMove g0) p9 
(oSet (xMove g1) p10 
(oSet (xMove g2) p11 
(oSet (xCall q338 [g9, g10, g11]) p12 
oEnd)))) (kCond g12 (kSeq (oSet (xMove q19) p6 
(oSet (xMove q18) p7 
oEnd)) kRet) kSkip)) (kSeq (oSet (xMove g0) p13 
(oSet (xMove g1) p14 
(oSet (xCall q339 [g13, g14]) p15 
(oSet (xMove g15) p8 
oEnd)))) (kSeq (kSeq (oSet (xMove g8) p16 
(oSet (xMove g0) p17 
(oSet (xLook (lkLen .sl g17)) p18 
(oSet (xLook (lkEq false .int g16 g18)) p19 
(oSet (xMove g19) p20 
(oSetIf (wantF g20) (xMove g0) p21 
(oSetIf (wantF g20) (xMove g8) p22 
(oSetIf (wantF g20) (xLook (lkIxSl (nat_lit 2) g21 g22)) p23 
(oSetIf (wantF g20) (xLook (lkFieldAddr (nat_lit 0) g23)) p24 
(oSetIf (wantF g20) (xLook (lkLoad1 g24)) p25 
(oSetIf (wantF g20) (xMove g1) p26 
(oSetIf (wantF g20) (xLook (lkBin .gtr g25 g26)) p27 
(oSet (xLook (lkPick g20 q13 g27)) p28 
(oSet (xMove g28) p29 
(oSetIf (wantF g29) (xMove g0) p30 
(oSetIf (wantF g29) (xMove g8) p31 
(oSetIf (wantF g29) (xLook (lkIxSl (nat_lit 2) g30 g31)) p32 
(oSetIf (wantF g29) (xLook (lkLoadN (nat_lit 2) g32)) p33 
(oSetIf (wantF g29) (xCall q333 [g33]) p34 
(oSetIf (wantF g29) (xMove g1) p35 
(oSetIf (wantF g29) (xMove g2) p36 
(oSetIf (wantF g29) (xLook (lkBin .add g35 g36)) p37 
(oSetIf (wantF g29) (xLook (lkBin .lss g34 g37)) p38 
(oSet (xLook (lkPick g29 q13 g38)) p39 
oEnd)))))))))))))))))))))))) (kCond g39 (kSeq (oSet (xMove q19) p6 
(oSet (xMove q195) p7 
oEnd)) kRet) kSkip)) (kSeq (oSet (xMove g0) p40 
(oSet (xMove g8) p41 
(oSet (xMove g1) p42 
(oSet (xMove g2) p43 
(oSet (xCall q329 [g40, g41, g42, g43]) p44 
(oSet (xMove g44) p6 
(oSet (xMove q15) p7 
oEnd))))))) kRet)))))⟩
noncomputable def k156 : KFun := ⟨[rTmp (nat_lit 2) g2], (kSeq (oSet (xTurn (tnBox g0)) p1 
(oSet (xMove q15) p2 
oEnd)) (kSeq (oSet (xLook (lkFieldAddr (nat_lit 0) g1)) p3 
(oSet (xLook (lkLoad1 g3)) p4 
(oSet (xLook (lkFieldAddr (nat_lit 1) g1)) p5 
(oSet (xLook (lkLoad1 g5)) p6 
(oSet (xLook (lkBin .add g4 g6)) p7 
(oSet (xMove g7) p2 
oEnd)))))) kRet))⟩
noncomputable def k157 : KFun := ⟨[rTmp (nat_lit 6) g6], (kSeq (oSet (xMove q19) p6 
oEnd) (kSeq (oSet (xMove g0) p8 
(oSet (xMove g1) p9 
(oSet (xMove g2) p10 
(oSet (xMove g0) p11 
(oSet (xLook (lkLen .sl g11)) p12 
(oSet (xLook (lkSliceSl (nat_lit 2) g8 (some g9) (some g10) (some g12))) p13 
oEnd)))))) (kSeq (kSeq (oSet (xMove g1) p14 
(oSet (xMove g2) p15 
(oSet (xLook (lkEq false .int g14 g15)) p16 
oEnd))) (kCond g16 (kSeq (oSet (xMove g0) p17 
(oSet (xMove g17) p6 
oEnd)) kRet) kSkip)) (kSeq (oSet (xMove g0) p18 
(oSet (xLook (lkLen .sl g18)) p19 
(oSet (xMove g19) p7 
oEnd))) (kSeq (kDraw 
(dLook (nat_lit 0) [] [] (lkMove g0) p20 
(dLook (nat_lit 1) [] [] (lkMove g1) p21 
(dLook (nat_lit 2) [] [] (lkSliceSl (nat_lit 2) g20 none (some g21) none) p22 
(dLook (nat_lit 3) [] [] (lkMove g0) p23 
(dLook (nat_lit 4) [] [] (lkMove g2) p24 
(dLook (nat_lit 5) [] [] (lkSliceSl (nat_lit 2) g23 (some g24) none none) p25 
(dTurn (nat_lit 6) [] [] true (xTurn (tnAppend (nat_lit 2) g22 g25)) p26 
(dLook (nat_lit 7) [] [(nat_lit 6)] (lkMove g26) p0 (dEnd [(nat_lit 20), (nat_lit 21), (nat_lit 22), (nat_lit 23), (nat_lit 24), (nat_lit 25), (nat_lit 26), (nat_lit 0)])))))))))) (kSeq (oSet (xMove g0) p27 
(oSet (xMove g0) p28 
(oSet (xLook (lkLen .sl g28)) p29 
(oSet (xMove g7) p30 
(oSet (xLook (lkSliceSl (nat_lit 2) g27 (some g29) (some g30) none)) p31 
(oDo (xTurn (tnClear q72 g31)) 
oEnd)))))) (kSeq (oSet (xMove g0) p32 
(oSet (xMove g32) p6 
oEnd)) kRet)))))))⟩
noncomputable def k158 : KFun := ⟨[rTmp (nat_lit 2) g2], (kSeq (oSet (xMove q19) p2 
oEnd) (kSeq (kSeq (oSet (xMove g0) p3 
(oSet (xLook (lkEq false .slice g3 q19)) p4 
oEnd)) (kCond g4 (kSeq (oSet (xMove q19) p2 
oEnd) kRet) kSkip)) (kSeq (oSet (xTurn (tnBuildSlice [] [] (nat_lit 0))) p5 
(oSet (xMove g0) p6 
(oSet (xTurn (tnAppend (nat_lit 2) g5 g6)) p7 
(oSet (xMove g7) p2 
oEnd)))) kRet)))⟩
def q341 : OpdF := kC (.func (.func (nat_lit 163)) ⟨[]⟩ ⟨[]⟩)
def q342 : OpdF := kC (.func (.func (nat_lit 164)) ⟨[]⟩ ⟨[]⟩)
noncomputable def k159 : KFun := ⟨[rTmp (nat_lit 6) g6], (kSeq (oSet (xMove q19) p6 
oEnd) (kSeq (oSet (xMove g0) p10 
(oSet (xMove g1) p11 
(oSet (xLook (lkSliceSl (nat_lit 2) g10 (some g11) none none)) p12 
oEnd))) (kSeq (oSet (xMove g2) p13 
(oSet (xLook (lkLen .sl g13)) p14 
(oSet (xMove g14) p7 
oEnd))) (kSeq (kSeq (oSet (xMove g7) p15 
(oSet (xLook (lkEq false .int g15 q15)) p16 
oEnd)) (kCond g16 (kSeq (oSet (xMove g0) p17 
(oSet (xMove g17) p6 
oEnd)) kRet) kSkip)) (kSeq (oSet (xMove g0) p18 
(oSet (xLook (lkLen .sl g18)) p19 
(oSet (xMove g19) p8 
oEnd))) (kSeq (kSeq (oSet (xMove g1) p20 
(oSet (xMove g8) p21 
(oSet (xLook (lkEq false .int g20 g21)) p22 
oEnd))) (kCond g22 (kSeq (oSet (xMove g0) p23 
(oSet (xMove g2) p24 
(oSet (xTurn (tnAppend (nat_lit 2) g23 g24)) p25 
(oSet (xMove g25) p6 
oEnd)))) kRet) kSkip)) (kSeq (kSeq (oSet (xMove g8) p26 
(oSet (xMove g7) p27 
(oSet (xLook (lkBin .add g26 g27)) p28 
(oSet (xMove g0) p29 
(oSet (xLook (lkCap g29)) p30 
(oSet (xLook (lkBin .gtr g28 g30)) p31 
oEnd)))))) (kCond g31 (kSeq (oSet (xMove g0) p32 
(oSet (xMove g1) p33 
(oSet (xLook (lkSliceSl (nat_lit 2) g32 none (some g33) none)) p34 
(oSet (xMove g8) p35 
(oSet (xMove g7) p36 
(oSet (xLook (lkBin .add g35 g36)) p37 
(oSet (xMove g1) p38 
(oSet (xLook (lkBin .sub g37 g38)) p39 
(oSet (xTurn (tnAppendZ q72 g34 g39)) p40 
(oSet (xMove g40) p9 
oEnd)))))))))) (kSeq (oSet (xMove g9) p41 
(oSet (xMove g1) p42 
(oSet (xLook (lkSliceSl (nat_lit 2) g41 (some g42) none none)) p43 
(oSet (xMove g2) p44 
(oSet (xTurn (tnCopy (nat_lit 2) g43 g44)) p45 
oEnd))))) (kSeq (kDraw 
(dLook (nat_lit 0) [] [] (lkMove g9) p46 
(dLook (nat_lit 1) [] [] (lkMove g1) p47 
(dLook (nat_lit 2) [] [] (lkMove g7) p48 
(dLook (nat_lit 3) [] [] (lkBin .add g47 g48) p49 
(dLook (nat_lit 4) [] [] (lkSliceSl (nat_lit 2) g46 (some g49) none none) p50 
(dLook (nat_lit 5) [] [] (lkMove g0) p51 
(dLook (nat_lit 6) [] [] (lkMove g1) p52 
(dLook (nat_lit 7) [] [] (lkSliceSl (nat_lit 2) g51 (some g52) none none) p53 
(dTurn (nat_lit 8) [] [] true (xTurn (tnCopy (nat_lit 2) g50 g53)) p54 (dEnd [(nat_lit 46), (nat_lit 47), (nat_lit 48), (nat_lit 49), (nat_lit 50), (nat_lit 51), (nat_lit 52), (nat_lit 53), (nat_lit 54)]))))))))))) (kSeq (oSet (xMove g9) p55 
(oSet (xMove g55) p6 
oEnd)) kRet)))) kSkip)) (kSeq (oSet (xMove g0) p56 
(oSet (xMove g8) p57 
(oSet (xMove g7) p58 
(oSet (xLook (lkBin .add g57 g58)) p59 
(oSet (xLook (lkSliceSl (nat_lit 2) g56 none (some g59) none)) p60 
(oSet (xMove g60) p0 
oEnd)))))) (kSeq (kSeq (oSet (xMove g2) p61 
(oSet (xMove g0) p62 
(oSet (xMove g1) p63 
(oSet (xMove g7) p64 
(oSet (xLook (lkBin .add g63 g64)) p65 
(oSet (xLook (lkSliceSl (nat_lit 2) g62 (some g65) none none)) p66 
(oSet (xCall q341 [g61, g66]) p67 
(oSet (xLook (lkUn .not g67)) p68 
oEnd)))))))) (kCond g68 (kSeq (kDraw 
(dLook (nat_lit 0) [] [] (lkMove g0) p69 
(dLook (nat_lit 1) [] [] (lkMove g1) p70 
(dLook (nat_lit 2) [] [] (lkMove g7) p71 
(dLook (nat_lit 3) [] [] (lkBin .add g70 g71) p72 
(dLook (nat_lit 4) [] [] (lkSliceSl (nat_lit 2) g69 (some g72) none none) p73 
(dLook (nat_lit 5) [] [] (lkMove g0) p74 
(dLook (nat_lit 6) [] [] (lkMove g1) p75 
(dLook (nat_lit 7) [] [] (lkSliceSl (nat_lit 2) g74 (some g75) none none) p76 
(dTurn (nat_lit 8) [] [] true (xTurn (tnCopy (nat_lit 2) g73 g76)) p77 (dEnd [(nat_lit 69), (nat_lit 70), (nat_lit 71), (nat_lit 72), (nat_lit 73), (nat_lit 74), (nat_lit 75), (nat_lit 76), (nat_lit 77)]))))))))))) (kSeq (oSet (xMove g0) p78 
(oSet (xMove g1) p79 
(oSet (xLook (lkSliceSl (nat_lit 2) g78 (some g79) none none)) p80 
(oSet (xMove g2) p81 
(oSet (xTurn (tnCopy (nat_lit 2) g80 g81)) p82 
oEnd))))) (kSeq (oSet (xMove g0) p83 
(oSet (xMove g83) p6 
oEnd)) kRet))) kSkip)) (kSeq (oSet (xMove g0) p84 
(oSet (xMove g8) p85 
(oSet (xLook (lkSliceSl (nat_lit 2) g84 (some g85) none none)) p86 
(oSet (xMove g2) p87 
(oSet (xTurn (tnCopy (nat_lit 2) g86 g87)) p88 
oEnd))))) (kSeq (oSet (xMove g0) p89 
(oSet (xMove g1) p90 
(oSet (xLook (lkSliceSl (nat_lit 2) g89 (some g90) none none)) p91 
(oSet (xMove g7) p92 
(oSet (xCall q342 [g91, g92]) p93 
oEnd))))) (kSeq (oSet (xMove g0) p94 
(oSet (xMove g94) p6 
oEnd)) kRet))))))))))))⟩
noncomputable def k160 : KFun := ⟨[rTmp (nat_lit 6) g6], (kSeq (oSet (xMove q0) p6 
oEnd) (kSeq (oSet (xMove g0) p7 
(oSet (xCall q327 [g7]) p8 
(oSet (xLook (lkEq true .int g8 q15)) p9 
(oSet (xMove g9) p10 
(oSetIf (wantF g10) (xMove g2) p11 
(oSetIf (wantF g10) (xLook (lkBin .lss g11 q26)) p12 
(oSet (xLook (lkPick g10 q13 g12)) p13 
(oSet (xMove g13) p14 
(oSetIf (wantF g14) (xMove g1) p15 
(oSetIf (wantF g14) (xLook (lkBin .lss g15 q15)) p16 
(oSet (xLook (lkPick g14 q13 g16)) p17 
(oSet (xMove g17) p18 
(oSetIf (wantF g18) (xMove g1) p19 
(oSetIf (wantF g18) (xLook (lkBin .geq g19 q60)) p20 
(oSet (xLook (lkPick g18 q13 g20)) p21 
(oSet (xMove g21) p22 
(oSetIf (wantF g22) (xMove g2) p23 
(oSetIf (wantF g22) (xMove g1) p24 
(oSetIf (wantF g22) (xLook (lkBin .sub q60 g24)) p25 
(oSetIf (wantF g22) (xLook (lkBin .gtr g23 g25)) p26 
(oSet (xLook (lkPick g22 q13 g26)) p27 
(oSet (xMove g27) p6 
oEnd)))))))))))))))))))))) kRet))⟩
def q343 : OpdF := kC (.func (.func (nat_lit 165)) ⟨[]⟩ ⟨[]⟩)
def q344 : OpdF := kC (.func (.func (nat_lit 166)) ⟨[]⟩ ⟨[]⟩)
noncomputable def k161 : KFun := ⟨[rTmp (nat_lit 4) g4], (kSeq (oSet (xMove q15) p4 
oEnd) (kSeq (oSet (xMove g0) p8 
(oSet (xMove g1) p9 
(oSet (xCall q343 [g8, g9, q344]) p10 
(oSet (xMove g10) p7 
(oSet (xLook (lkExtract (nat_lit 0) g7)) p11 
(oSet (xLook (lkExtract (nat_lit 1) g7)) p12 
(oSet (xMove g11) p5 
(oSet (xMove g12) p6 
oEnd)))))))) (kSeq (oSet (xMove g5) p13 
(oSet (xMove g13) p4 
oEnd)) kRet)))⟩
noncomputable def k165 : KFun := ⟨[rTmp (nat_lit 6) g6, rTmp (nat_lit 7) g7], (kSeq (oSet (xMove q15) p6 
(oSet (xMove q0) p7 
oEnd)) (kSeq (oSet (xMove g0) p12 
(oSet (xLook (lkLen .sl g12)) p13 
(oSet (xMove g13) p8 
oEnd))) (kSeq (oSet (xMove g8) p14 
(oSet (xMove q15) p9 
(oSet (xMove g14) p10 
oEnd))) (kSeq (kBlock (nat_lit 0) (kLoop (kSeq (kSeq (oSet (xMove g9) p15 
(oSet (xMove g10) p16 
(oSet (xLook (lkBin .lss g15 g16)) p17 
oEnd))) (kCond g17 kSkip (kExit (nat_lit 0)))) (kBlock (nat_lit 1) (kSeq (oSet (xMove g9) p18 
(oSet (xMove g10) p19 
(oSet (xLook (lkBin .add g18 g19)) p20 
(oSet (xLook (lkIntTo .u64 g20)) p21 
(oSet (xLook (lkBin .shr g21 q218)) p22 
(oSet (xLook (lkIntTo .i64 g22)) p23 
(oSet (xMove g23) p11 
oEnd))))))) (kSeq (oSet (xMove g2) p24 
(oSet (xMove g0) p25 
(oSet (xMove g11) p26 
(oSet (xLook (lkIxSl (nat_lit 2) g25 g26)) p27 
(oSet (xLook (lkLoadN (nat_lit 2) g27)) p28 
(oSet (xMove g1) p29 
(oSet (xCall g24 [g28, g29]) p30 
(oSet (xLook (lkBin .lss g30 q15)) p31 
oEnd)))))))) (kCond g31 (oSet (xMove g11) p32 
(oSet (xLook (lkBin .add g32 q26)) p33 
(oSet (xMove g33) p9 
oEnd))) (oSet (xMove g11) p34 
(oSet (xMove g34) p10 
oEnd))))))))) (kSeq (oSet (xMove g9) p35 
(oSet (xMove g9) p36 
(oSet (xMove g8) p37 
(oSet (xLook (lkBin .lss g36 g37)) p38 
(oSet (xMove g38) p39 
(oSetIf (wantT g39) (xMove g2) p40 
(oSetIf (wantT g39) (xMove g0) p41 
(oSetIf (wantT g39) (xMove g9) p42 
(oSetIf (wantT g39) (xLook (lkIxSl (nat_lit 2) g41 g42)) p43 
(oSetIf (wantT g39) (xLook (lkLoadN (nat_lit 2) g43)) p44 
(oSetIf (wantT g39) (xMove g1) p45 
(oSetIf (wantT g39) (xCall g40 [g44, g45]) p46 
(oSetIf (wantT g39) (xLook (lkEq false .int g46 q15)) p47 
(oSet (xLook (lkPick g39 g47 q0)) p48 
(oSet (xMove g35) p6 
(oSet (xMove g48) p7 
oEnd)))))))))))))))) kRet)))))⟩
noncomputable def k166 : KFun := ⟨[rTmp (nat_lit 4) g4], (kSeq (oSet (xTurn (tnBox g0)) p2 
(oSet (xMove q15) p4 
oEnd)) (kSeq (kSeq (oSet (xLook (lkLoadN (nat_lit 2) g2)) p5 
(oSet (xCall q333 [g5]) p6 
(oSet (xMove g1) p7 
(oSet (xLook (lkBin .leq g6 g7)) p8 
oEnd)))) (kCond g8 (kSeq (oSet (xMove q62) p4 
oEnd) kRet) kSkip)) (kSeq (oSet (xMove q26) p4 
oEnd) kRet)))⟩
noncomputable def tab : Tr KFun := (.node none (.node none (.node (some k3) (.node (some k7) (.node (some k15) (.node (some k31) (.node (some k63) .nil .nil) (.node none (.node (some k159) .nil .nil) .nil)) (.node (some k47) (.node (some k79) .nil .nil) (.node (some k111) .nil .nil))) (.node (some k23) (.node none (.node (some k71) (.node (some k135) .nil .nil) .nil) (.node (some k103) .nil .nil)) (.node (some k55) (.node (some k87) (.node (some k151) .nil .nil) .nil) (.node (some k119) .nil .nil)))) (.node (some k11) (.node (some k19) (.node (some k35) (.node (some k67) .nil .nil) .nil) (.node none (.node (some k83) (.node (some k147) .nil .nil) .nil) (.node (some k115) .nil .nil))) (.node (some k27) (.node none (.node (some k75) .nil .nil) .nil) (.node (some k59) (.node (some k91) .nil .nil) .nil)))) (.node (some k5) (.node (some k9) (.node (some k17) (.node none (.node (some k65) (.node (some k129) .nil .nil) .nil) (.node none (.node (some k161) .nil .nil) .nil)) (.node (some k49) (.node (some k81) .nil .nil) .nil)) (.node (some k25) (.node (some k41) (.node (some k73) .nil .nil) (.node (some k105) .nil .nil)) (.node none (.node (some k89) .nil .nil) (.node (some k121) .nil .nil)))) (.node (some k13) (.node (some k21) (.node (some k37) (.node (some k69) (.node (some k133) .nil .nil) .nil) (.node none (.node (some k165) .nil .nil) .nil)) (.node (some k53) (.node none (.node (some k149) .nil .nil) .nil) (.node (some k117) .nil .nil))) (.node none (.node (some k45) (.node (some k77) .nil .nil) (.node (some k109) .nil .nil)) (.node none (.node (some k93) (.node (some k157) .nil .nil) .nil) .nil))))) (.node none (.node (some k4) (.node (some k8) (.node (some k16) (.node none (.node (some k64) .nil .nil) (.node none (.node (some k160) .nil .nil) .nil)) (.node (some k48) (.node (some k80) .nil .nil) .nil)) (.node (some k24) (.node none (.node none (.node (some k136) .nil .nil) .nil) (.node (some k104) .nil .nil)) (.node none (.node (some k88) (.node (some k152) .nil .nil) .nil) .nil))) (.node (some k12) (.node (some k20) (.node (some k36) (.node (some k68) .nil .nil) .nil) (.node none (.node (some k84) (.node (some k148) .nil .nil) .nil) (.node (some k116) .nil .nil))) (.node none (.node (some k44) .nil (.node (some k108) .nil .nil)) (.node (some k60) (.node (some k92) (.node (some k156) .nil .nil) .nil) .nil)))) (.node (some k6) (.node (some k10) (.node (some k18) (.node (some k34) (.node (some k66) .nil .nil) .nil) (.node (some k50) (.node (some k82) .nil .nil) (.node (some k114) .nil .nil))) (.node (some k26) (.node none (.node (some k74) .nil .nil) (.node (some k106) .nil .nil)) (.node (some k58) (.node (some k90) .nil .nil) .nil))) (.node (some k14) (.node (some k22) (.node (some k38) (.node (some k70) (.node (some k134) .nil .nil) .nil) (.node (some k102) (.node (some k166) .nil .nil) .nil)) (.node (some k54) (.node (some k86) (.node (some k150) .nil .nil) .nil) (.node (some k118) .nil .nil))) (.node (some k30) (.node (some k46) (.node (some k78) .nil .nil) (.node (some k110) .nil .nil)) (.node (some k62) (.node none (.node (some k158) .nil .nil) .nil) .nil))))))
end Go.Proofs.YtlppncaohmbihaaGreat.Eng
