/-
  The functions that the law reaches, as the abstract machine runs them, printed by program. No condition.
-/
import Derived.Test.YtlajogneffpnlaaGreatA
namespace Go.Proofs.YtlajogneffpnlaaGreat.Eng
open Go Go.Eng
set_option linter.unusedVariables false
set_option maxRecDepth 100000

def q0 : OpdF := kC (.bool false)
def q1 : OpdF := kC (.int .i64 (.ofNat (nat_lit 100)))
def q2 : OpdF := kC (.func (.func (nat_lit 29)) ⟨[]⟩ ⟨[]⟩)
def q3 : OpdF := kC (.pointer none)
def q4 : List Value := [(.slice none (nat_lit 0) (nat_lit 0)), (.map none), (.pointer none), (.int .i64 (.ofNat (nat_lit 0))), (.int .u8 (.ofNat (nat_lit 0))), (.int .u8 (.ofNat (nat_lit 0))), (.int .u8 (.ofNat (nat_lit 0))), (.int .u8 (.ofNat (nat_lit 0))), (.int .u8 (.ofNat (nat_lit 0))), (.int .u8 (.ofNat (nat_lit 0))), (.int .u8 (.ofNat (nat_lit 0))), (.int .u8 (.ofNat (nat_lit 0))), (.int .u8 (.ofNat (nat_lit 0))), (.int .u8 (.ofNat (nat_lit 0))), (.int .u8 (.ofNat (nat_lit 0))), (.int .u8 (.ofNat (nat_lit 0))), (.int .u8 (.ofNat (nat_lit 0))), (.int .u8 (.ofNat (nat_lit 0))), (.int .u8 (.ofNat (nat_lit 0))), (.int .u8 (.ofNat (nat_lit 0))), (.int .u8 (.ofNat (nat_lit 0))), (.int .u8 (.ofNat (nat_lit 0))), (.int .u8 (.ofNat (nat_lit 0))), (.int .u8 (.ofNat (nat_lit 0))), (.int .u8 (.ofNat (nat_lit 0))), (.int .u8 (.ofNat (nat_lit 0))), (.int .u8 (.ofNat (nat_lit 0))), (.int .u8 (.ofNat (nat_lit 0))), (.int .u8 (.ofNat (nat_lit 0))), (.int .u8 (.ofNat (nat_lit 0))), (.int .u8 (.ofNat (nat_lit 0))), (.int .u8 (.ofNat (nat_lit 0))), (.int .u8 (.ofNat (nat_lit 0))), (.int .u8 (.ofNat (nat_lit 0))), (.int .u8 (.ofNat (nat_lit 0))), (.int .u8 (.ofNat (nat_lit 0))), (.int .i64 (.ofNat (nat_lit 0))), (.int .i64 (.ofNat (nat_lit 0))), (.map none), (.bool false)]
def q5 : List Value := [(.pointer none), (.pointer none)]
def q6 : OpdF := kC (.int .i64 (.ofNat (nat_lit 0)))
def q7 : OpdF := kC (.int .i64 (.ofNat (nat_lit 2)))
def q8 : OpdF := kC (.func (.func (nat_lit 30)) ⟨[]⟩ ⟨[]⟩)
def q9 : List Value := [(.int .u8 (.ofNat (nat_lit 0))), (.int .u8 (.ofNat (nat_lit 0))), (.int .u8 (.ofNat (nat_lit 0))), (.int .u8 (.ofNat (nat_lit 0))), (.int .u8 (.ofNat (nat_lit 0))), (.int .u8 (.ofNat (nat_lit 0))), (.int .u8 (.ofNat (nat_lit 0))), (.int .u8 (.ofNat (nat_lit 0))), (.int .u8 (.ofNat (nat_lit 0))), (.int .u8 (.ofNat (nat_lit 0))), (.int .u8 (.ofNat (nat_lit 0))), (.int .u8 (.ofNat (nat_lit 0))), (.int .u8 (.ofNat (nat_lit 0))), (.int .u8 (.ofNat (nat_lit 0))), (.int .u8 (.ofNat (nat_lit 0))), (.int .u8 (.ofNat (nat_lit 0))), (.int .u8 (.ofNat (nat_lit 0))), (.int .u8 (.ofNat (nat_lit 0))), (.int .u8 (.ofNat (nat_lit 0))), (.int .u8 (.ofNat (nat_lit 0))), (.int .u8 (.ofNat (nat_lit 0))), (.int .u8 (.ofNat (nat_lit 0))), (.int .u8 (.ofNat (nat_lit 0))), (.int .u8 (.ofNat (nat_lit 0))), (.int .u8 (.ofNat (nat_lit 0))), (.int .u8 (.ofNat (nat_lit 0))), (.int .u8 (.ofNat (nat_lit 0))), (.int .u8 (.ofNat (nat_lit 0))), (.int .u8 (.ofNat (nat_lit 0))), (.int .u8 (.ofNat (nat_lit 0))), (.int .u8 (.ofNat (nat_lit 0))), (.int .u8 (.ofNat (nat_lit 0)))]
def q10 : OpdF := kC (.func (.func (nat_lit 28)) ⟨[]⟩ ⟨[]⟩)
def q11 : OpdF := kC (.func (.func (nat_lit 25)) ⟨[]⟩ ⟨[]⟩)
def q12 : OpdF := kC (.slice none (nat_lit 0) (nat_lit 0))
def q13 : OpdF := kC (.bool true)
def q14 : OpdF := kC (.int .i64 (.ofNat (nat_lit 1)))
noncomputable def k5d0 : KD := 
(dLook (nat_lit 40) [] [(nat_lit 30), (nat_lit 38)] (lkPick g90 q13 g96) p97 (dEnd [(nat_lit 57), (nat_lit 58), (nat_lit 59), (nat_lit 60), (nat_lit 61), (nat_lit 62), (nat_lit 63), (nat_lit 64), (nat_lit 65), (nat_lit 66), (nat_lit 67), (nat_lit 68), (nat_lit 69), (nat_lit 70), (nat_lit 71), (nat_lit 72), (nat_lit 73), (nat_lit 74), (nat_lit 75), (nat_lit 76), (nat_lit 77), (nat_lit 78), (nat_lit 79), (nat_lit 80), (nat_lit 81), (nat_lit 82), (nat_lit 83), (nat_lit 84), (nat_lit 85), (nat_lit 86), (nat_lit 87), (nat_lit 88), (nat_lit 89), (nat_lit 90), (nat_lit 91), (nat_lit 92), (nat_lit 93), (nat_lit 94), (nat_lit 95), (nat_lit 96), (nat_lit 97)]))
def q15 : OpdF := kC (.func (.func (nat_lit 31)) ⟨[]⟩ ⟨[]⟩)
noncomputable def k5d1 : KD := 
(dIf [(nat_lit 30), (nat_lit 38)] (wantF g90) p96 (dLook (nat_lit 39) [] [(nat_lit 30), (nat_lit 38)] (lkEq true .int g95 q14) p96 k5d0) k5d0)
noncomputable def k5d2 : KD := 
(dIf [(nat_lit 30)] (wantF g90) p95 (dTurn (nat_lit 38) [] [(nat_lit 30)] true (xCall q15 [g94]) p95 k5d1) k5d1)
noncomputable def k5d3 : KD := 
(dIf [(nat_lit 30)] (wantF g90) p94 (dLook (nat_lit 37) [] [(nat_lit 30)] (lkLoad1 g93) p94 k5d2) k5d2)
noncomputable def k5d4 : KD := 
(dIf [(nat_lit 30)] (wantF g90) p93 (dLook (nat_lit 36) [] [(nat_lit 30)] (lkIxSl (nat_lit 1) g91 g92) p93 k5d3) k5d3)
noncomputable def k5d5 : KD := 
(dIf [(nat_lit 30)] (wantF g90) p92 (dLook (nat_lit 35) [] [(nat_lit 30)] (lkMove g8) p92 k5d4) k5d4)
noncomputable def k5d6 : KD := 
(dLook (nat_lit 32) [] [(nat_lit 30)] (lkPick g81 q13 g88) p89 
(dLook (nat_lit 33) [] [(nat_lit 30)] (lkMove g89) p90 
(dIf [(nat_lit 30)] (wantF g90) p91 (dLook (nat_lit 34) [] [(nat_lit 30)] (lkMove g7) p91 k5d5) k5d5)))
def q16 : OpdF := kC (.func (.func (nat_lit 22)) ⟨[]⟩ ⟨[]⟩)
noncomputable def k5d7 : KD := 
(dIf [(nat_lit 30)] (wantF g81) p88 (dLook (nat_lit 31) [] [(nat_lit 30)] (lkEq true .int g87 q14) p88 k5d6) k5d6)
noncomputable def k5d8 : KD := 
(dIf [] (wantF g81) p87 (dTurn (nat_lit 30) [] [] true (xCall q16 [g85, g86]) p87 k5d7) k5d7)
noncomputable def k5d9 : KD := 
(dIf [] (wantF g81) p86 (dLook (nat_lit 29) [] [] (lkLoadN (nat_lit 32) g3) p86 k5d8) k5d8)
noncomputable def k5d10 : KD := 
(dIf [] (wantF g81) p85 (dLook (nat_lit 28) [] [] (lkLoad1 g84) p85 k5d9) k5d9)
noncomputable def k5d11 : KD := 
(dIf [] (wantF g81) p84 (dLook (nat_lit 27) [] [] (lkIxSl (nat_lit 1) g82 g83) p84 k5d10) k5d10)
noncomputable def k5d12 : KD := 
(dIf [] (wantF g81) p83 (dLook (nat_lit 26) [] [] (lkMove g8) p83 k5d11) k5d11)
noncomputable def k5d13 : KD := 
(dLook (nat_lit 23) [] [] (lkPick g77 q13 g79) p80 
(dLook (nat_lit 24) [] [] (lkMove g80) p81 
(dIf [] (wantF g81) p82 (dLook (nat_lit 25) [] [] (lkMove g7) p82 k5d12) k5d12)))
noncomputable def k5d14 : KD := 
(dIf [] (wantF g77) p79 (dLook (nat_lit 22) [] [] (lkEq true .int g78 q14) p79 k5d13) k5d13)
noncomputable def k5d15 : KD := 
(dLook (nat_lit 19) [] [] (lkPick g73 q13 g75) p76 
(dLook (nat_lit 20) [] [] (lkMove g76) p77 
(dIf [] (wantF g77) p78 (dLook (nat_lit 21) [] [] (lkMove g14) p78 k5d14) k5d14)))
noncomputable def k5d16 : KD := 
(dIf [] (wantF g73) p75 (dLook (nat_lit 18) [] [] (lkEq true .int g74 q6) p75 k5d15) k5d15)
noncomputable def k5d17 : KD := 
(dLook (nat_lit 15) [] [] (lkPick g69 q13 g71) p72 
(dLook (nat_lit 16) [] [] (lkMove g72) p73 
(dIf [] (wantF g73) p74 (dLook (nat_lit 17) [] [] (lkMove g13) p74 k5d16) k5d16)))
noncomputable def k5d18 : KD := 
(dIf [] (wantF g69) p71 (dLook (nat_lit 14) [] [] (lkEq true .int g70 q14) p71 k5d17) k5d17)
noncomputable def k5d19 : KD := 
(dLook (nat_lit 11) [] [] (lkPick g64 q13 g67) p68 
(dLook (nat_lit 12) [] [] (lkMove g68) p69 
(dIf [] (wantF g69) p70 (dLook (nat_lit 13) [] [] (lkMove g12) p70 k5d18) k5d18)))
noncomputable def k5d20 : KD := 
(dIf [] (wantF g64) p67 (dLook (nat_lit 10) [] [] (lkEq true .int g66 q6) p67 k5d19) k5d19)
noncomputable def k5d21 : KD := 
(dIf [] (wantF g64) p66 (dLook (nat_lit 9) [] [] (lkLen .sl g65) p66 k5d20) k5d20)
noncomputable def k5d22 : KD := 
(dLook (nat_lit 6) [] [] (lkPick g60 q13 g62) p63 
(dLook (nat_lit 7) [] [] (lkMove g63) p64 
(dIf [] (wantF g64) p65 (dLook (nat_lit 8) [] [] (lkMove g11) p65 k5d21) k5d21)))
noncomputable def k5d23 : KD := 
(dIf [] (wantF g60) p62 (dLook (nat_lit 5) [] [] (lkEq true .int g61 q14) p62 k5d22) k5d22)
def q17 : OpdF := kC (.func (.func (nat_lit 33)) ⟨[]⟩ ⟨[]⟩)
noncomputable def k5d24 : KD := 
(dLook (nat_lit 46) [] [(nat_lit 5), (nat_lit 11), (nat_lit 20), (nat_lit 28), (nat_lit 37), (nat_lit 45)] (lkPick g138 q13 g143) p144 (dEnd [(nat_lit 98), (nat_lit 99), (nat_lit 100), (nat_lit 101), (nat_lit 102), (nat_lit 103), (nat_lit 104), (nat_lit 105), (nat_lit 106), (nat_lit 107), (nat_lit 108), (nat_lit 109), (nat_lit 110), (nat_lit 111), (nat_lit 112), (nat_lit 113), (nat_lit 114), (nat_lit 115), (nat_lit 116), (nat_lit 117), (nat_lit 118), (nat_lit 119), (nat_lit 120), (nat_lit 121), (nat_lit 122), (nat_lit 123), (nat_lit 124), (nat_lit 125), (nat_lit 126), (nat_lit 127), (nat_lit 128), (nat_lit 129), (nat_lit 130), (nat_lit 131), (nat_lit 132), (nat_lit 133), (nat_lit 134), (nat_lit 135), (nat_lit 136), (nat_lit 137), (nat_lit 138), (nat_lit 139), (nat_lit 140), (nat_lit 141), (nat_lit 142), (nat_lit 143), (nat_lit 144)]))
noncomputable def k5d25 : KD := 
(dIf [(nat_lit 5), (nat_lit 11), (nat_lit 20), (nat_lit 28), (nat_lit 37)] (wantF g138) p143 (dTurn (nat_lit 45) [] [(nat_lit 5), (nat_lit 11), (nat_lit 20), (nat_lit 28), (nat_lit 37)] true (xCall q17 [g142]) p143 k5d24) k5d24)
noncomputable def k5d26 : KD := 
(dIf [(nat_lit 5), (nat_lit 11), (nat_lit 20), (nat_lit 28), (nat_lit 37)] (wantF g138) p142 (dLook (nat_lit 44) [] [(nat_lit 5), (nat_lit 11), (nat_lit 20), (nat_lit 28), (nat_lit 37)] (lkLoad1 g141) p142 k5d25) k5d25)
noncomputable def k5d27 : KD := 
(dIf [(nat_lit 5), (nat_lit 11), (nat_lit 20), (nat_lit 28), (nat_lit 37)] (wantF g138) p141 (dLook (nat_lit 43) [] [(nat_lit 5), (nat_lit 11), (nat_lit 20), (nat_lit 28), (nat_lit 37)] (lkIxSl (nat_lit 1) g139 g140) p141 k5d26) k5d26)
noncomputable def k5d28 : KD := 
(dIf [(nat_lit 5), (nat_lit 11), (nat_lit 20), (nat_lit 28), (nat_lit 37)] (wantF g138) p140 (dLook (nat_lit 42) [] [(nat_lit 5), (nat_lit 11), (nat_lit 20), (nat_lit 28), (nat_lit 37)] (lkMove g8) p140 k5d27) k5d27)
noncomputable def k5d29 : KD := 
(dLook (nat_lit 39) [] [(nat_lit 5), (nat_lit 11), (nat_lit 20), (nat_lit 28), (nat_lit 37)] (lkPick g130 q13 g136) p137 
(dLook (nat_lit 40) [] [(nat_lit 5), (nat_lit 11), (nat_lit 20), (nat_lit 28), (nat_lit 37)] (lkMove g137) p138 
(dIf [(nat_lit 5), (nat_lit 11), (nat_lit 20), (nat_lit 28), (nat_lit 37)] (wantF g138) p139 (dLook (nat_lit 41) [] [(nat_lit 5), (nat_lit 11), (nat_lit 20), (nat_lit 28), (nat_lit 37)] (lkMove g7) p139 k5d28) k5d28)))
def q18 : OpdF := kC (.func (.func (nat_lit 27)) ⟨[]⟩ ⟨[]⟩)
noncomputable def k5d30 : KD := 
(dIf [(nat_lit 5), (nat_lit 11), (nat_lit 20), (nat_lit 28), (nat_lit 37)] (wantF g130) p136 (dLook (nat_lit 38) [] [(nat_lit 5), (nat_lit 11), (nat_lit 20), (nat_lit 28), (nat_lit 37)] (lkEq true .int g135 q6) p136 k5d29) k5d29)
noncomputable def k5d31 : KD := 
(dIf [(nat_lit 5), (nat_lit 11), (nat_lit 20), (nat_lit 28)] (wantF g130) p135 (dTurn (nat_lit 37) [] [(nat_lit 5), (nat_lit 11), (nat_lit 20), (nat_lit 28)] true (xCall q18 [g134]) p135 k5d30) k5d30)
noncomputable def k5d32 : KD := 
(dIf [(nat_lit 5), (nat_lit 11), (nat_lit 20), (nat_lit 28)] (wantF g130) p134 (dLook (nat_lit 36) [] [(nat_lit 5), (nat_lit 11), (nat_lit 20), (nat_lit 28)] (lkLoad1 g133) p134 k5d31) k5d31)
noncomputable def k5d33 : KD := 
(dIf [(nat_lit 5), (nat_lit 11), (nat_lit 20), (nat_lit 28)] (wantF g130) p133 (dLook (nat_lit 35) [] [(nat_lit 5), (nat_lit 11), (nat_lit 20), (nat_lit 28)] (lkIxSl (nat_lit 1) g131 g132) p133 k5d32) k5d32)
noncomputable def k5d34 : KD := 
(dIf [(nat_lit 5), (nat_lit 11), (nat_lit 20), (nat_lit 28)] (wantF g130) p132 (dLook (nat_lit 34) [] [(nat_lit 5), (nat_lit 11), (nat_lit 20), (nat_lit 28)] (lkMove g8) p132 k5d33) k5d33)
noncomputable def k5d35 : KD := 
(dLook (nat_lit 31) [] [(nat_lit 5), (nat_lit 11), (nat_lit 20), (nat_lit 28)] (lkPick g121 q13 g128) p129 
(dLook (nat_lit 32) [] [(nat_lit 5), (nat_lit 11), (nat_lit 20), (nat_lit 28)] (lkMove g129) p130 
(dIf [(nat_lit 5), (nat_lit 11), (nat_lit 20), (nat_lit 28)] (wantF g130) p131 (dLook (nat_lit 33) [] [(nat_lit 5), (nat_lit 11), (nat_lit 20), (nat_lit 28)] (lkMove g7) p131 k5d34) k5d34)))
noncomputable def k5d36 : KD := 
(dIf [(nat_lit 5), (nat_lit 11), (nat_lit 20), (nat_lit 28)] (wantF g121) p128 (dLook (nat_lit 30) [] [(nat_lit 5), (nat_lit 11), (nat_lit 20), (nat_lit 28)] (lkEq true .int g127 q6) p128 k5d35) k5d35)
def q19 : OpdF := kC (.func (.func (nat_lit 32)) ⟨[]⟩ ⟨[]⟩)
noncomputable def k5d37 : KD := 
(dIf [(nat_lit 5), (nat_lit 11), (nat_lit 20), (nat_lit 28)] (wantF g121) p127 (dLook (nat_lit 29) [] [(nat_lit 5), (nat_lit 11), (nat_lit 20), (nat_lit 28)] (lkLen .sl g126) p127 k5d36) k5d36)
noncomputable def k5d38 : KD := 
(dIf [(nat_lit 5), (nat_lit 11), (nat_lit 20)] (wantF g121) p126 (dTurn (nat_lit 28) [] [(nat_lit 5), (nat_lit 11), (nat_lit 20)] true (xCall q19 [g125]) p126 k5d37) k5d37)
noncomputable def k5d39 : KD := 
(dIf [(nat_lit 5), (nat_lit 11), (nat_lit 20)] (wantF g121) p125 (dLook (nat_lit 27) [] [(nat_lit 5), (nat_lit 11), (nat_lit 20)] (lkLoad1 g124) p125 k5d38) k5d38)
noncomputable def k5d40 : KD := 
(dIf [(nat_lit 5), (nat_lit 11), (nat_lit 20)] (wantF g121) p124 (dLook (nat_lit 26) [] [(nat_lit 5), (nat_lit 11), (nat_lit 20)] (lkIxSl (nat_lit 1) g122 g123) p124 k5d39) k5d39)
noncomputable def k5d41 : KD := 
(dIf [(nat_lit 5), (nat_lit 11), (nat_lit 20)] (wantF g121) p123 (dLook (nat_lit 25) [] [(nat_lit 5), (nat_lit 11), (nat_lit 20)] (lkMove g8) p123 k5d40) k5d40)
noncomputable def k5d42 : KD := 
(dLook (nat_lit 22) [] [(nat_lit 5), (nat_lit 11), (nat_lit 20)] (lkPick g113 q13 g119) p120 
(dLook (nat_lit 23) [] [(nat_lit 5), (nat_lit 11), (nat_lit 20)] (lkMove g120) p121 
(dIf [(nat_lit 5), (nat_lit 11), (nat_lit 20)] (wantF g121) p122 (dLook (nat_lit 24) [] [(nat_lit 5), (nat_lit 11), (nat_lit 20)] (lkMove g7) p122 k5d41) k5d41)))
def q20 : OpdF := kC (.func (.func (nat_lit 19)) ⟨[]⟩ ⟨[]⟩)
noncomputable def k5d43 : KD := 
(dIf [(nat_lit 5), (nat_lit 11), (nat_lit 20)] (wantF g113) p119 (dLook (nat_lit 21) [] [(nat_lit 5), (nat_lit 11), (nat_lit 20)] (lkEq true .int g118 q6) p119 k5d42) k5d42)
noncomputable def k5d44 : KD := 
(dIf [(nat_lit 5), (nat_lit 11)] (wantF g113) p118 (dTurn (nat_lit 20) [] [(nat_lit 5), (nat_lit 11)] true (xCall q20 [g117]) p118 k5d43) k5d43)
noncomputable def k5d45 : KD := 
(dIf [(nat_lit 5), (nat_lit 11)] (wantF g113) p117 (dLook (nat_lit 19) [] [(nat_lit 5), (nat_lit 11)] (lkLoad1 g116) p117 k5d44) k5d44)
noncomputable def k5d46 : KD := 
(dIf [(nat_lit 5), (nat_lit 11)] (wantF g113) p116 (dLook (nat_lit 18) [] [(nat_lit 5), (nat_lit 11)] (lkIxSl (nat_lit 1) g114 g115) p116 k5d45) k5d45)
noncomputable def k5d47 : KD := 
(dIf [(nat_lit 5), (nat_lit 11)] (wantF g113) p115 (dLook (nat_lit 17) [] [(nat_lit 5), (nat_lit 11)] (lkMove g8) p115 k5d46) k5d46)
noncomputable def k5d48 : KD := 
(dLook (nat_lit 14) [] [(nat_lit 5), (nat_lit 11)] (lkPick g104 q13 g111) p112 
(dLook (nat_lit 15) [] [(nat_lit 5), (nat_lit 11)] (lkMove g112) p113 
(dIf [(nat_lit 5), (nat_lit 11)] (wantF g113) p114 (dLook (nat_lit 16) [] [(nat_lit 5), (nat_lit 11)] (lkMove g7) p114 k5d47) k5d47)))
noncomputable def k5d49 : KD := 
(dIf [(nat_lit 5), (nat_lit 11)] (wantF g104) p111 (dLook (nat_lit 13) [] [(nat_lit 5), (nat_lit 11)] (lkEq true (.flat [(.int .u8), (.int .u8), (.int .u8), (.int .u8), (.int .u8), (.int .u8), (.int .u8), (.int .u8), (.int .u8), (.int .u8), (.int .u8), (.int .u8), (.int .u8), (.int .u8), (.int .u8), (.int .u8), (.int .u8), (.int .u8), (.int .u8), (.int .u8), (.int .u8), (.int .u8), (.int .u8), (.int .u8), (.int .u8), (.int .u8), (.int .u8), (.int .u8), (.int .u8), (.int .u8), (.int .u8), (.int .u8)]) g109 g110) p111 k5d48) k5d48)
def q21 : OpdF := kC (.func (.func (nat_lit 18)) ⟨[]⟩ ⟨[]⟩)
noncomputable def k5d50 : KD := 
(dIf [(nat_lit 5)] (wantF g104) p110 (dLook (nat_lit 12) [] [(nat_lit 5)] (lkBuild q9 []) p110 k5d49) k5d49)
noncomputable def k5d51 : KD := 
(dIf [(nat_lit 5)] (wantF g104) p109 (dTurn (nat_lit 11) [] [(nat_lit 5)] true (xCall q21 [g108]) p109 k5d50) k5d50)
noncomputable def k5d52 : KD := 
(dIf [(nat_lit 5)] (wantF g104) p108 (dLook (nat_lit 10) [] [(nat_lit 5)] (lkLoad1 g107) p108 k5d51) k5d51)
noncomputable def k5d53 : KD := 
(dIf [(nat_lit 5)] (wantF g104) p107 (dLook (nat_lit 9) [] [(nat_lit 5)] (lkIxSl (nat_lit 1) g105 g106) p107 k5d52) k5d52)
noncomputable def k5d54 : KD := 
(dIf [(nat_lit 5)] (wantF g104) p106 (dLook (nat_lit 8) [] [(nat_lit 5)] (lkMove g8) p106 k5d53) k5d53)
def q22 : OpdF := kC (.func (.func (nat_lit 26)) ⟨[]⟩ ⟨[]⟩)
def q23 : OpdF := kC (.func (.func (nat_lit 23)) ⟨[]⟩ ⟨[]⟩)
def q24 : List Value := [(.int .i64 (.ofNat (nat_lit 0))), (.int .i64 (.ofNat (nat_lit 0))), (.bool false), (.bool false), (.int .i64 (.ofNat (nat_lit 0))), (.map none), (.slice none (nat_lit 0) (nat_lit 0))]
noncomputable def k5 : KFun := ⟨[rTmp (nat_lit 4) g4], (kSeq (oSet (xTurn (tnBox g1)) p3 
(oSet (xMove q0) p4 
oEnd)) (kSeq (kSeq (oSet (xMove g0) p19 
(oSet (xLook (lkLen .sl g19)) p20 
(oSet (xLook (lkBin .gtr g20 q1)) p21 
oEnd))) (kCond g21 (kSeq (oSet (xCall q2 []) p22 
(oSet (xMove g22) p4 
oEnd)) kRet) kSkip)) (kSeq (oSet (xMove q3) p5 
oEnd) (kSeq (oSet (xMove q3) p6 
oEnd) (kSeq (oSet (xMove g5) p23 
(oSet (xLook (lkBuild q4 [])) p24 
(oSet (xTurn (tnBox g24)) p25 
(oSet (xTurn (tnBuildSlice q5 [((nat_lit 0), (nat_lit 1), g23), ((nat_lit 1), (nat_lit 1), g25)] (nat_lit 2))) p26 
(oSet (xMove g26) p7 
oEnd))))) (kSeq (kSeq (oSet (xMove q6) p8 
oEnd) (kBlock (nat_lit 0) (kLoop (kSeq (kSeq (oSet (xMove g8) p27 
(oSet (xLook (lkBin .lss g27 q7)) p28 
oEnd)) (kCond g28 kSkip (kExit (nat_lit 0)))) (kSeq (kBlock (nat_lit 1) (kSeq (oSet (xMove g7) p32 
(oSet (xMove g8) p33 
(oSet (xLook (lkIxSl (nat_lit 1) g32 g33)) p34 
(oSet (xLook (lkLoad1 g34)) p35 
(oSet (xMove g0) p36 
(oSet (xCall q8 [g35, g36]) p37 
(oSet (xMove g37) p31 
(oSet (xLook (lkExtract (nat_lit 0) g31)) p38 
(oSet (xLook (lkExtract (nat_lit 1) g31)) p39 
(oSet (xTurn (tnAlloc q9)) p9 
(oDo (xTurn (tnStore (nat_lit 32) g9 g38)) 
(oSet (xMove g39) p10 
oEnd)))))))))))) (kSeq (kDraw 
(dLook (nat_lit 0) [] [] (lkMove g7) p41 
(dLook (nat_lit 1) [] [] (lkMove g8) p42 
(dLook (nat_lit 2) [] [] (lkIxSl (nat_lit 1) g41 g42) p43 
(dLook (nat_lit 3) [] [] (lkLoad1 g43) p44 
(dLook (nat_lit 4) [] [] (lkLoadN (nat_lit 32) g3) p45 
(dTurn (nat_lit 5) [] [] true (xCall q10 [g44, g45]) p46 
(dLook (nat_lit 6) [] [(nat_lit 5)] (lkMove g46) p40 
(dLook (nat_lit 7) [] [(nat_lit 5)] (lkExtract (nat_lit 0) g40) p47 
(dLook (nat_lit 8) [] [(nat_lit 5)] (lkExtract (nat_lit 1) g40) p48 
(dLook (nat_lit 9) [] [(nat_lit 5)] (lkMove g47) p11 
(dLook (nat_lit 10) [] [(nat_lit 5)] (lkMove g48) p12 (dEnd [(nat_lit 41), (nat_lit 42), (nat_lit 43), (nat_lit 44), (nat_lit 45), (nat_lit 46), (nat_lit 40), (nat_lit 47), (nat_lit 48), (nat_lit 11), (nat_lit 12)]))))))))))))) (kSeq (oSet (xMove g7) p50 
(oSet (xMove g8) p51 
(oSet (xLook (lkIxSl (nat_lit 1) g50 g51)) p52 
(oSet (xLook (lkLoad1 g52)) p53 
(oSet (xCall q11 [g53, q12]) p54 
(oSet (xMove g54) p49 
(oSet (xLook (lkExtract (nat_lit 0) g49)) p55 
(oSet (xLook (lkExtract (nat_lit 1) g49)) p56 
(oSet (xMove g55) p13 
(oSet (xMove g56) p14 
oEnd)))))))))) (kSeq (kSeq (kDraw 
(dLook (nat_lit 0) [] [] (lkLoadN (nat_lit 32) g9) p57 
(dLook (nat_lit 1) [] [] (lkBuild q9 []) p58 
(dLook (nat_lit 2) [] [] (lkEq true (.flat [(.int .u8), (.int .u8), (.int .u8), (.int .u8), (.int .u8), (.int .u8), (.int .u8), (.int .u8), (.int .u8), (.int .u8), (.int .u8), (.int .u8), (.int .u8), (.int .u8), (.int .u8), (.int .u8), (.int .u8), (.int .u8), (.int .u8), (.int .u8), (.int .u8), (.int .u8), (.int .u8), (.int .u8), (.int .u8), (.int .u8), (.int .u8), (.int .u8), (.int .u8), (.int .u8), (.int .u8), (.int .u8)]) g57 g58) p59 
(dLook (nat_lit 3) [] [] (lkMove g59) p60 
(dIf [] (wantF g60) p61 (dLook (nat_lit 4) [] [] (lkMove g10) p61 k5d23) k5d23)))))) (kCond g97 (kSeq (oSet (xMove q0) p4 
oEnd) kRet) kSkip)) (kSeq (kDraw 
(dLook (nat_lit 0) [] [] (lkMove g7) p98 
(dLook (nat_lit 1) [] [] (lkMove g8) p99 
(dLook (nat_lit 2) [] [] (lkIxSl (nat_lit 1) g98 g99) p100 
(dLook (nat_lit 3) [] [] (lkLoad1 g100) p101 
(dLook (nat_lit 4) [] [] (lkLoadN (nat_lit 32) g3) p102 
(dTurn (nat_lit 5) [] [] true (xCall q22 [g101, g102]) p103 
(dLook (nat_lit 6) [] [(nat_lit 5)] (lkMove g103) p104 
(dIf [(nat_lit 5)] (wantF g104) p105 (dLook (nat_lit 7) [] [(nat_lit 5)] (lkMove g7) p105 k5d54) k5d54))))))))) (kCond g144 (kSeq (oSet (xMove q0) p4 
oEnd) kRet) kSkip))))))) (oSet (xMove g8) p29 
(oSet (xLook (lkBin .add g29 q14)) p30 
(oSet (xMove g30) p8 
oEnd)))))))) (kSeq (oSet (xMove g6) p146 
(oSet (xCall q23 [g146]) p147 
(oSet (xMove g147) p145 
(oSet (xLook (lkExtract (nat_lit 0) g145)) p148 
(oSet (xLook (lkExtract (nat_lit 1) g145)) p149 
(oSet (xMove g148) p15 
(oSet (xMove g149) p16 
oEnd))))))) (kSeq (oSet (xLook (lkBuild q24 [])) p151 
(oSet (xTurn (tnBox g151)) p152 
(oSet (xCall q23 [g152]) p153 
(oSet (xMove g153) p150 
(oSet (xLook (lkExtract (nat_lit 0) g150)) p154 
(oSet (xLook (lkExtract (nat_lit 1) g150)) p155 
(oSet (xMove g154) p17 
(oSet (xMove g155) p18 
oEnd)))))))) (kSeq (oSet (xMove g15) p156 
(oSet (xLook (lkEq false .ptr g156 q3)) p157 
(oSet (xMove g157) p158 
(oSetIf (wantT g158) (xMove g17) p159 
(oSetIf (wantT g158) (xLook (lkEq false .ptr g159 q3)) p160 
(oSet (xLook (lkPick g158 g160 q0)) p161 
(oSet (xMove g161) p162 
(oSetIf (wantT g162) (xMove g16) p163 
(oSetIf (wantT g162) (xLook (lkEq false .int g163 q14)) p164 
(oSet (xLook (lkPick g162 g164 q0)) p165 
(oSet (xMove g165) p166 
(oSetIf (wantT g166) (xMove g18) p167 
(oSetIf (wantT g166) (xLook (lkEq false .int g167 q14)) p168 
(oSet (xLook (lkPick g166 g168 q0)) p169 
(oSet (xMove g169) p170 
(oSetIf (wantT g170) (xCall q2 []) p171 
(oSet (xLook (lkPick g170 g171 q0)) p172 
(oSet (xMove g172) p4 
oEnd)))))))))))))))))) kRet)))))))))⟩
def q25 : OpdF := kC (.func (.func (nat_lit 61)) ⟨[]⟩ ⟨[]⟩)
noncomputable def k17 : KFun := ⟨[rTmp (nat_lit 2) g2, rTmp (nat_lit 3) g3], (kSeq (oSet (xMove q3) p2 
(oSet (xMove q3) p3 
oEnd)) (kSeq (oSet (xMove g0) p9 
(oSet (xCall q25 [g9]) p10 
(oSet (xMove g10) p8 
(oSet (xLook (lkExtract (nat_lit 0) g8)) p11 
(oSet (xLook (lkExtract (nat_lit 1) g8)) p12 
(oSet (xMove g11) p4 
(oSet (xMove g12) p5 
oEnd))))))) (kSeq (kSeq (oSet (xMove g5) p13 
(oSet (xLook (lkEq true .int g13 q6)) p14 
(oSet (xMove g14) p15 
(oSetIf (wantF g15) (xMove g4) p16 
(oSetIf (wantF g15) (xLook (lkEq false .ptr g16 q3)) p17 
(oSet (xLook (lkPick g15 q13 g17)) p18 
oEnd)))))) (kCond g18 (kSeq (oSet (xMove q3) p2 
(oSet (xMove q3) p3 
oEnd)) kRet) kSkip)) (kSeq (oSet (xMove g4) p20 
(oSet (xCall q23 [g20]) p21 
(oSet (xMove g21) p19 
(oSet (xLook (lkExtract (nat_lit 0) g19)) p22 
(oSet (xLook (lkExtract (nat_lit 1) g19)) p23 
(oSet (xMove g22) p6 
(oSet (xMove g23) p7 
oEnd))))))) (kSeq (kSeq (oSet (xMove g7) p24 
(oSet (xLook (lkEq true .int g24 q6)) p25 
oEnd)) (kCond g25 (kSeq (oSet (xMove q3) p2 
(oSet (xMove q3) p3 
oEnd)) kRet) kSkip)) (kSeq (oSet (xMove g4) p26 
(oSet (xMove g6) p27 
(oSet (xMove g26) p2 
(oSet (xMove g27) p3 
oEnd)))) kRet))))))⟩
def q26 : OpdF := kC (.func (.func (nat_lit 76)) ⟨[]⟩ ⟨[]⟩)
noncomputable def k18 : KFun := ⟨[rCellN (nat_lit 2) g2 (nat_lit 32)], (kSeq (oSet (xTurn (tnAlloc q9)) p2 
oEnd) (kSeq (kSeq (oSet (xMove g0) p3 
(oSet (xCall q26 [g3]) p4 
(oSet (xLook (lkEq true .int g4 q6)) p5 
oEnd))) (kCond g5 (kSeq (oSet (xLook (lkBuild q9 [])) p6 
(oDo (xTurn (tnStore (nat_lit 32) g2 g6)) 
oEnd)) kRet) kSkip)) (kSeq (oSet (xMove g0) p7 
(oSet (xNil g7) p8 
(oSet (xLook (lkFieldAddr (nat_lit 4) g8)) p9 
(oSet (xLook (lkLoadN (nat_lit 32) g9)) p10 
(oDo (xTurn (tnStore (nat_lit 32) g2 g10)) 
oEnd))))) kRet)))⟩
noncomputable def k19 : KFun := ⟨[rTmp (nat_lit 2) g2], (kSeq (oSet (xMove q6) p2 
oEnd) (kSeq (kSeq (oSet (xMove g0) p3 
(oSet (xCall q26 [g3]) p4 
(oSet (xLook (lkEq true .int g4 q6)) p5 
oEnd))) (kCond g5 (kSeq (oSet (xMove q6) p2 
oEnd) kRet) kSkip)) (kSeq (oSet (xMove g0) p6 
(oSet (xNil g6) p7 
(oSet (xLook (lkFieldAddr (nat_lit 3) g7)) p8 
(oSet (xLook (lkLoad1 g8)) p9 
(oSet (xMove g9) p2 
oEnd))))) kRet)))⟩
def q27 : OpdF := kC (.func (.func (nat_lit 77)) ⟨[]⟩ ⟨[]⟩)
def q28 : OpdF := kC (.func (.func (nat_lit 78)) ⟨[]⟩ ⟨[]⟩)
def q29 : OpdF := kC (.func (.func (nat_lit 79)) ⟨[]⟩ ⟨[]⟩)
noncomputable def k20 : KFun := ⟨[rCellN (nat_lit 2) g2 (nat_lit 32)], (kSeq (oSet (xTurn (tnAlloc q9)) p2 
oEnd) (kSeq (oSet (xCall q27 []) p4 
(oSet (xMove g4) p3 
oEnd)) (kSeq (oSet (xMove g3) p5 
(oSet (xMove g0) p6 
(oSet (xCall q28 [g5, g6]) p7 
oEnd))) (kSeq (oSet (xMove g3) p8 
(oSet (xCall q29 [g8]) p9 
(oDo (xTurn (tnStore (nat_lit 32) g2 g9)) 
oEnd))) kRet))))⟩
noncomputable def k21d0 : KD := 
(dLook (nat_lit 22) [] [(nat_lit 18)] (lkPick g19 g37 q0) p38 
(dLook (nat_lit 23) [] [(nat_lit 18)] (lkMove g38) p6 (dEnd [(nat_lit 16), (nat_lit 17), (nat_lit 18), (nat_lit 19), (nat_lit 20), (nat_lit 21), (nat_lit 22), (nat_lit 23), (nat_lit 24), (nat_lit 25), (nat_lit 26), (nat_lit 27), (nat_lit 28), (nat_lit 29), (nat_lit 30), (nat_lit 31), (nat_lit 32), (nat_lit 33), (nat_lit 34), (nat_lit 35), (nat_lit 36), (nat_lit 37), (nat_lit 38), (nat_lit 6)])))
noncomputable def k21d1 : KD := 
(dIf [(nat_lit 18)] (wantT g19) p37 (dLook (nat_lit 21) [] [(nat_lit 18)] (lkPick g27 q13 g36) p37 k21d0) k21d0)
noncomputable def k21d2 : KD := 
(dIf [(nat_lit 18)] (wantF g27) p36 (dLook (nat_lit 20) [] [(nat_lit 18)] (lkPick g30 g35 q0) p36 k21d1) k21d1)
def q30 : OpdF := kC (.func (.func (nat_lit 20)) ⟨[]⟩ ⟨[]⟩)
noncomputable def k21d3 : KD := 
(dIf [(nat_lit 18)] (wantT g30) p35 (dLook (nat_lit 19) [] [(nat_lit 18)] (lkEq false (.flat [(.int .u8), (.int .u8), (.int .u8), (.int .u8), (.int .u8), (.int .u8), (.int .u8), (.int .u8), (.int .u8), (.int .u8), (.int .u8), (.int .u8), (.int .u8), (.int .u8), (.int .u8), (.int .u8), (.int .u8), (.int .u8), (.int .u8), (.int .u8), (.int .u8), (.int .u8), (.int .u8), (.int .u8), (.int .u8), (.int .u8), (.int .u8), (.int .u8), (.int .u8), (.int .u8), (.int .u8), (.int .u8)]) g31 g34) p35 k21d2) k21d2)
noncomputable def k21d4 : KD := 
(dIf [] (wantT g30) p34 (dTurn (nat_lit 18) [(nat_lit 15)] [] true (xCall q30 [g33]) p34 k21d3) k21d3)
noncomputable def k21d5 : KD := 
(dIf [] (wantT g30) p33 (dTurn (nat_lit 17) [] [] false (xTurn (tnToBytes g32)) p33 k21d4) k21d4)
noncomputable def k21d6 : KD := 
(dIf [] (wantT g30) p32 (dLook (nat_lit 16) [] [] (lkMove g1) p32 k21d5) k21d5)
noncomputable def k21d7 : KD := 
(dIf [] (wantT g30) p31 (dLook (nat_lit 15) [] [] (lkLoadN (nat_lit 32) g7) p31 k21d6) k21d6)
noncomputable def k21d8 : KD := 
(dIf [] (wantF g27) p30 (dLook (nat_lit 14) [] [] (lkMove g29) p30 k21d7) k21d7)
noncomputable def k21d9 : KD := 
(dIf [] (wantF g27) p29 (dLook (nat_lit 13) [] [] (lkEq false .int g28 q6) p29 k21d8) k21d8)
noncomputable def k21d10 : KD := 
(dIf [] (wantF g27) p28 (dLook (nat_lit 12) [] [] (lkMove g8) p28 k21d9) k21d9)
noncomputable def k21d11 : KD := 
(dIf [] (wantT g19) p27 (dLook (nat_lit 11) [] [] (lkMove g26) p27 k21d10) k21d10)
noncomputable def k21d12 : KD := 
(dIf [] (wantT g19) p26 (dLook (nat_lit 10) [] [] (lkPick g22 g25 q0) p26 k21d11) k21d11)
noncomputable def k21d13 : KD := 
(dIf [] (wantT g22) p25 (dLook (nat_lit 9) [] [] (lkEq false (.flat [(.int .u8), (.int .u8), (.int .u8), (.int .u8), (.int .u8), (.int .u8), (.int .u8), (.int .u8), (.int .u8), (.int .u8), (.int .u8), (.int .u8), (.int .u8), (.int .u8), (.int .u8), (.int .u8), (.int .u8), (.int .u8), (.int .u8), (.int .u8), (.int .u8), (.int .u8), (.int .u8), (.int .u8), (.int .u8), (.int .u8), (.int .u8), (.int .u8), (.int .u8), (.int .u8), (.int .u8), (.int .u8)]) g23 g24) p25 k21d12) k21d12)
noncomputable def k21d14 : KD := 
(dIf [] (wantT g22) p24 (dLook (nat_lit 8) [] [] (lkBuild q9 []) p24 k21d13) k21d13)
noncomputable def k21d15 : KD := 
(dIf [] (wantT g22) p23 (dLook (nat_lit 7) [] [] (lkLoadN (nat_lit 32) g7) p23 k21d14) k21d14)
noncomputable def k21d16 : KD := 
(dIf [] (wantT g19) p22 (dLook (nat_lit 6) [] [] (lkMove g21) p22 k21d15) k21d15)
noncomputable def k21d17 : KD := 
(dIf [] (wantT g19) p21 (dLook (nat_lit 5) [] [] (lkEq true .int g20 q6) p21 k21d16) k21d16)
noncomputable def k21 : KFun := ⟨[rTmp (nat_lit 6) g6], (kSeq (oSet (xMove q0) p6 
oEnd) (kSeq (oSet (xMove g0) p10 
(oSet (xMove g1) p11 
(oSet (xTurn (tnToBytes g11)) p12 
(oSet (xCall q8 [g10, g12]) p13 
(oSet (xMove g13) p9 
(oSet (xLook (lkExtract (nat_lit 0) g9)) p14 
(oSet (xLook (lkExtract (nat_lit 1) g9)) p15 
(oSet (xTurn (tnAlloc q9)) p7 
(oDo (xTurn (tnStore (nat_lit 32) g7 g14)) 
(oSet (xMove g15) p8 
oEnd)))))))))) (kSeq (kDraw 
(dLook (nat_lit 0) [] [] (lkMove g8) p16 
(dLook (nat_lit 1) [] [] (lkMove g2) p17 
(dLook (nat_lit 2) [] [] (lkEq false .int g16 g17) p18 
(dLook (nat_lit 3) [] [] (lkMove g18) p19 
(dIf [] (wantT g19) p20 (dLook (nat_lit 4) [] [] (lkMove g8) p20 k21d17) k21d17)))))) kRet)))⟩
def q31 : OpdF := kC (.int .i64 (.ofNat (nat_lit 6)))
def q32 : OpdF := kC (.func (.func (nat_lit 80)) ⟨[]⟩ ⟨[]⟩)
def q33 : OpdF := kC (.func (.func (nat_lit 82)) ⟨[]⟩ ⟨[]⟩)
def q34 : OpdF := kC (.func (.func (nat_lit 81)) ⟨[]⟩ ⟨[]⟩)
def q35 : List Value := [(.int .i64 (.ofNat (nat_lit 0))), (.int .u8 (.ofNat (nat_lit 0))), (.int .u8 (.ofNat (nat_lit 0))), (.int .u8 (.ofNat (nat_lit 0))), (.int .u8 (.ofNat (nat_lit 0))), (.int .u8 (.ofNat (nat_lit 0))), (.int .u8 (.ofNat (nat_lit 0))), (.int .u8 (.ofNat (nat_lit 0))), (.int .u8 (.ofNat (nat_lit 0))), (.int .u8 (.ofNat (nat_lit 0))), (.int .u8 (.ofNat (nat_lit 0))), (.int .u8 (.ofNat (nat_lit 0))), (.int .u8 (.ofNat (nat_lit 0))), (.int .u8 (.ofNat (nat_lit 0))), (.int .u8 (.ofNat (nat_lit 0))), (.int .u8 (.ofNat (nat_lit 0))), (.int .u8 (.ofNat (nat_lit 0))), (.int .u8 (.ofNat (nat_lit 0))), (.int .u8 (.ofNat (nat_lit 0))), (.int .u8 (.ofNat (nat_lit 0))), (.int .u8 (.ofNat (nat_lit 0))), (.int .u8 (.ofNat (nat_lit 0))), (.int .u8 (.ofNat (nat_lit 0))), (.int .u8 (.ofNat (nat_lit 0))), (.int .u8 (.ofNat (nat_lit 0))), (.int .u8 (.ofNat (nat_lit 0))), (.int .u8 (.ofNat (nat_lit 0))), (.int .u8 (.ofNat (nat_lit 0))), (.int .u8 (.ofNat (nat_lit 0))), (.int .u8 (.ofNat (nat_lit 0))), (.int .u8 (.ofNat (nat_lit 0))), (.int .u8 (.ofNat (nat_lit 0))), (.int .u8 (.ofNat (nat_lit 0))), (.int .i64 (.ofNat (nat_lit 0))), (.int .i64 (.ofNat (nat_lit 0)))]
def q36 : OpdF := kC (.func (.func (nat_lit 83)) ⟨[]⟩ ⟨[]⟩)
def q37 : OpdF := kC (.int .i64 (.ofNat (nat_lit 10)))
def q38 : OpdF := kC (.func (.func (nat_lit 84)) ⟨[]⟩ ⟨[]⟩)
def q39 : OpdF := kC (.func (.func (nat_lit 85)) ⟨[]⟩ ⟨[]⟩)
def q40 : List Value := [(.int .i64 (.ofNat (nat_lit 0))), (.int .i64 (.ofNat (nat_lit 0)))]
noncomputable def k22 : KFun := ⟨[rTmp (nat_lit 4) g4], (kSeq (oSet (xTurn (tnBox g1)) p3 
(oSet (xMove q6) p4 
oEnd)) (kSeq (kSeq (oSet (xMove g0) p10 
(oSet (xCall q26 [g10]) p11 
(oSet (xMove g11) p5 
oEnd))) (kSeq (oSet (xMove g5) p12 
(oSet (xLook (lkEq true .int g12 q6)) p13 
oEnd)) (kCond g13 (kSeq (oSet (xMove g5) p14 
(oSet (xMove g14) p4 
oEnd)) kRet) kSkip))) (kSeq (kSeq (oSet (xLook (lkLoadN (nat_lit 32) g3)) p15 
(oSet (xLook (lkBuild q9 [])) p16 
(oSet (xLook (lkEq true (.flat [(.int .u8), (.int .u8), (.int .u8), (.int .u8), (.int .u8), (.int .u8), (.int .u8), (.int .u8), (.int .u8), (.int .u8), (.int .u8), (.int .u8), (.int .u8), (.int .u8), (.int .u8), (.int .u8), (.int .u8), (.int .u8), (.int .u8), (.int .u8), (.int .u8), (.int .u8), (.int .u8), (.int .u8), (.int .u8), (.int .u8), (.int .u8), (.int .u8), (.int .u8), (.int .u8), (.int .u8), (.int .u8)]) g15 g16)) p17 
(oSet (xMove g17) p18 
(oSetIf (wantT g18) (xMove g0) p19 
(oSetIf (wantT g18) (xLook (lkLoadN (nat_lit 32) g3)) p20 
(oSetIf (wantT g18) (xCall q22 [g19, g20]) p21 
(oSetIf (wantT g18) (xLook (lkUn .not g21)) p22 
(oSet (xLook (lkPick g18 g22 q0)) p23 
oEnd))))))))) (kCond g23 (kSeq (oSet (xMove q31) p4 
oEnd) kRet) kSkip)) (kSeq (oSet (xMove g0) p24 
(oSet (xCall q32 [g24]) p25 
(oSet (xMove g25) p6 
oEnd))) (kSeq (oSet (xMove g0) p27 
(oSet (xMove g6) p28 
(oSet (xLook (lkLen .sl g28)) p29 
(oSet (xCall q33 [g29]) p30 
(oSet (xCall q34 [g27, g30]) p31 
(oSet (xMove g31) p26 
(oSet (xLook (lkExtract (nat_lit 0) g26)) p32 
(oSet (xLook (lkExtract (nat_lit 1) g26)) p33 
(oSet (xMove g32) p7 
(oSet (xMove g33) p8 
oEnd)))))))))) (kSeq (kSeq (oSet (xMove g8) p34 
(oSet (xLook (lkEq true .int g34 q6)) p35 
oEnd)) (kCond g35 (kSeq (oSet (xMove g8) p36 
(oSet (xMove g36) p4 
oEnd)) kRet) kSkip)) (kSeq (kDraw 
(dLook (nat_lit 0) [] [] (lkMove g0) p37 
(dTurn (nat_lit 1) [] [] false (xNil g37) p38 
(dLook (nat_lit 2) [] [] (lkFieldAddr (nat_lit 3) g38) p39 
(dLook (nat_lit 3) [] [] (lkLoad1 g39) p40 
(dLook (nat_lit 4) [] [] (lkBin .add g40 q14) p41 
(dLook (nat_lit 5) [] [] (lkLoadN (nat_lit 32) g3) p42 
(dLook (nat_lit 6) [] [] (lkMove g7) p43 
(dLook (nat_lit 7) [] [] (lkMove g6) p44 
(dLook (nat_lit 8) [] [] (lkLen .sl g44) p45 
(dLook (nat_lit 9) [] [] (lkBuild q35 [((nat_lit 0), (nat_lit 1), g41), ((nat_lit 1), (nat_lit 32), g42), ((nat_lit 33), (nat_lit 1), g43), ((nat_lit 34), (nat_lit 1), g45)]) p46 
(dTurn (nat_lit 10) [] [] false (xTurn (tnAlloc q35)) p9 
(dTurn (nat_lit 11) [] [] true (xTurn (tnStore (nat_lit 35) g9 g46)) noDst (dEnd [(nat_lit 37), (nat_lit 38), (nat_lit 39), (nat_lit 40), (nat_lit 41), (nat_lit 42), (nat_lit 43), (nat_lit 44), (nat_lit 45), (nat_lit 46), (nat_lit 9)])))))))))))))) (kSeq (kSeq (oSet (xMove g0) p47 
(oSet (xLook (lkLoadN (nat_lit 35) g9)) p48 
(oSet (xMove g6) p49 
(oSet (xCall q36 [g47, g48, g49]) p50 
(oSet (xLook (lkEq true .int g50 q6)) p51 
oEnd))))) (kCond g51 (kSeq (oSet (xMove g0) p52 
(oSet (xNil g52) p53 
(oSet (xLook (lkFieldAddr (nat_lit 39) g53)) p54 
(oDo (xTurn (tnStore (nat_lit 1) g54 q13)) 
oEnd)))) (kSeq (oSet (xMove q37) p4 
oEnd) kRet)) kSkip)) (kSeq (oSet (xMove g0) p55 
(oSet (xMove g0) p56 
(oSet (xCall q38 [g56]) p57 
(oSet (xNil g55) p58 
(oSet (xLook (lkFieldAddr (nat_lit 38) g58)) p59 
(oDo (xTurn (tnStore (nat_lit 1) g59 g57)) 
oEnd)))))) (kSeq (kDraw 
(dLook (nat_lit 0) [] [] (lkMove g0) p60 
(dLook (nat_lit 1) [] [] (lkMove g0) p61 
(dLook (nat_lit 2) [] [] (lkMove g0) p62 
(dLook (nat_lit 3) [] [] (lkMove g0) p63 
(dLook (nat_lit 4) [] [] (lkFieldAddr (nat_lit 0) g9) p64 
(dLook (nat_lit 5) [] [] (lkLoad1 g64) p65 
(dLook (nat_lit 6) [] [] (lkLoadN (nat_lit 32) g3) p66 
(dLook (nat_lit 7) [] [] (lkMove g7) p67 
(dLook (nat_lit 8) [] [] (lkMove g6) p68 
(dLook (nat_lit 9) [] [] (lkLen .sl g68) p69 
(dLook (nat_lit 10) [] [] (lkBuild q40 [((nat_lit 0), (nat_lit 1), g67), ((nat_lit 1), (nat_lit 1), g69)]) p70 
(dTurn (nat_lit 11) [(nat_lit 5), (nat_lit 6), (nat_lit 9)] [] true (xCall q39 []) p71 
(dTurn (nat_lit 12) [] [(nat_lit 11)] false (xNil g60) p72 
(dLook (nat_lit 13) [] [(nat_lit 11)] (lkFieldAddr (nat_lit 3) g72) p73 
(dTurn (nat_lit 14) [(nat_lit 6), (nat_lit 9)] [(nat_lit 11)] true (xTurn (tnStore (nat_lit 1) g73 g65)) noDst 
(dTurn (nat_lit 15) [] [(nat_lit 11), (nat_lit 14)] false (xNil g61) p74 
(dLook (nat_lit 16) [] [(nat_lit 11), (nat_lit 14)] (lkFieldAddr (nat_lit 4) g74) p75 
(dTurn (nat_lit 17) [(nat_lit 9)] [(nat_lit 11), (nat_lit 14)] true (xTurn (tnStore (nat_lit 32) g75 g66)) noDst 
(dTurn (nat_lit 18) [] [(nat_lit 11), (nat_lit 14), (nat_lit 17)] false (xNil g62) p76 
(dLook (nat_lit 19) [] [(nat_lit 11), (nat_lit 14), (nat_lit 17)] (lkFieldAddr (nat_lit 36) g76) p77 
(dTurn (nat_lit 20) [] [(nat_lit 11), (nat_lit 14), (nat_lit 17)] true (xTurn (tnStore (nat_lit 2) g77 g70)) noDst 
(dTurn (nat_lit 21) [] [(nat_lit 11), (nat_lit 14), (nat_lit 17), (nat_lit 20)] false (xNil g63) p78 
(dLook (nat_lit 22) [] [(nat_lit 11), (nat_lit 14), (nat_lit 17), (nat_lit 20)] (lkFieldAddr (nat_lit 0) g78) p79 
(dTurn (nat_lit 23) [] [(nat_lit 11), (nat_lit 14), (nat_lit 17), (nat_lit 20)] true (xTurn (tnStore (nat_lit 2) g79 g71)) noDst (dEnd [(nat_lit 60), (nat_lit 61), (nat_lit 62), (nat_lit 63), (nat_lit 64), (nat_lit 65), (nat_lit 66), (nat_lit 67), (nat_lit 68), (nat_lit 69), (nat_lit 70), (nat_lit 71), (nat_lit 72), (nat_lit 73), (nat_lit 74), (nat_lit 75), (nat_lit 76), (nat_lit 77), (nat_lit 78), (nat_lit 79)])))))))))))))))))))))))))) (kSeq (oSet (xMove q6) p4 
oEnd) kRet)))))))))))⟩
def q41 : OpdF := kC (.func (.func (nat_lit 86)) ⟨[]⟩ ⟨[]⟩)
def q42 : OpdF := kC (.func (.func (nat_lit 87)) ⟨[]⟩ ⟨[]⟩)
def q43 : OpdF := kC (.int .i64 (.ofNat (nat_lit 4)))
def q44 : OpdF := kC (.int .i64 (.ofNat (nat_lit 8)))
def q45 : OpdF := kC (.func (.func (nat_lit 88)) ⟨[]⟩ ⟨[]⟩)
def q46 : OpdF := kC (.func (.func (nat_lit 89)) ⟨[]⟩ ⟨[]⟩)
def q47 : OpdF := kC (.int .i64 (.ofNat (nat_lit 11)))
def q48 : OpdF := kC (.func (.func (nat_lit 90)) ⟨[]⟩ ⟨[]⟩)
def q49 : OpdF := kC (.func (.func (nat_lit 91)) ⟨[]⟩ ⟨[]⟩)
def q50 : OpdF := kC (.func (.func (nat_lit 92)) ⟨[]⟩ ⟨[]⟩)
def q51 : OpdF := kC (.func (.func (nat_lit 93)) ⟨[]⟩ ⟨[]⟩)
noncomputable def k23 : KFun := ⟨[rTmp (nat_lit 2) g2, rTmp (nat_lit 3) g3], (kSeq (oSet (xMove q3) p2 
(oSet (xMove q6) p3 
oEnd)) (kSeq (kSeq (oSet (xMove g0) p16 
(oSet (xCall q41 [g16, q6]) p17 
(oSet (xMove g17) p15 
(oSet (xLook (lkExtract (nat_lit 0) g15)) p18 
(oSet (xLook (lkExtract (nat_lit 1) g15)) p19 
(oSet (xMove g18) p4 
(oSet (xMove g19) p5 
oEnd))))))) (kSeq (oSet (xMove g5) p20 
(oSet (xLook (lkEq false .int g20 q14)) p21 
oEnd)) (kCond g21 (kSeq (oSet (xMove g5) p22 
(oSet (xMove q3) p2 
(oSet (xMove g22) p3 
oEnd))) kRet) kSkip))) (kSeq (kSeq (oSet (xMove g0) p23 
(oSet (xCall q42 [g23]) p24 
(oSet (xLook (lkBin .lss g24 q43)) p25 
oEnd))) (kCond g25 (kSeq (oSet (xMove q3) p2 
(oSet (xMove q44) p3 
oEnd)) kRet) kSkip)) (kSeq (oSet (xCall q39 []) p26 
(oSet (xMove g0) p27 
(oSet (xTurn (tnMkMap (.many (nat_lit 32) .u8))) p28 
(oSet (xLook (lkBuild q4 [((nat_lit 0), (nat_lit 2), g26), ((nat_lit 2), (nat_lit 1), g27), ((nat_lit 38), (nat_lit 1), g28)])) p29 
(oSet (xTurn (tnBox g29)) p30 
(oSet (xMove g30) p6 
oEnd)))))) (kSeq (oSet (xMove g0) p32 
(oSet (xCall q45 [g32]) p33 
(oSet (xMove g33) p31 
(oSet (xLook (lkExtract (nat_lit 0) g31)) p34 
(oSet (xLook (lkExtract (nat_lit 1) g31)) p35 
(oSet (xLook (lkExtract (nat_lit 2) g31)) p36 
(oSet (xTurn (tnAlloc q35)) p7 
(oDo (xTurn (tnStore (nat_lit 35) g7 g34)) 
(oSet (xMove g35) p8 
(oSet (xMove g36) p9 
oEnd)))))))))) (kSeq (kSeq (oSet (xMove g9) p37 
oEnd) (kBlock (nat_lit 0) (kSeq (oSet (xLook (lkEq false .int g37 q6)) p40 
(oSet (xMove g40) p39 
oEnd)) (kCond g39 kSkip (kSeq (oSet (xLook (lkEq false .int g37 q31)) p42 
(oSet (xMove g42) p41 
oEnd)) (kCond g41 (kSeq (oSet (xMove g6) p43 
(oSet (xMove g43) p2 
(oSet (xMove q6) p3 
oEnd))) kRet) (kSeq (oSet (xMove g9) p38 
(oSet (xMove q3) p2 
(oSet (xMove g38) p3 
oEnd))) kRet))))))) (kSeq (kDraw 
(dLook (nat_lit 0) [] [] (lkMove g6) p44 
(dLook (nat_lit 1) [] [] (lkMove g6) p45 
(dLook (nat_lit 2) [] [] (lkMove g6) p46 
(dLook (nat_lit 3) [] [] (lkFieldAddr (nat_lit 0) g7) p47 
(dLook (nat_lit 4) [] [] (lkLoad1 g47) p48 
(dLook (nat_lit 5) [] [] (lkFieldAddr (nat_lit 1) g7) p49 
(dLook (nat_lit 6) [] [] (lkLoadN (nat_lit 32) g49) p50 
(dLook (nat_lit 7) [] [] (lkFieldAddr (nat_lit 33) g7) p51 
(dLook (nat_lit 8) [] [] (lkLoad1 g51) p52 
(dLook (nat_lit 9) [] [] (lkFieldAddr (nat_lit 34) g7) p53 
(dLook (nat_lit 10) [] [] (lkLoad1 g53) p54 
(dLook (nat_lit 11) [] [] (lkBuild q40 [((nat_lit 0), (nat_lit 1), g52), ((nat_lit 1), (nat_lit 1), g54)]) p55 
(dTurn (nat_lit 12) [] [] false (xNil g44) p56 
(dLook (nat_lit 13) [] [] (lkFieldAddr (nat_lit 3) g56) p57 
(dTurn (nat_lit 14) [(nat_lit 6), (nat_lit 8), (nat_lit 10)] [] true (xTurn (tnStore (nat_lit 1) g57 g48)) noDst 
(dTurn (nat_lit 15) [] [(nat_lit 14)] false (xNil g45) p58 
(dLook (nat_lit 16) [] [(nat_lit 14)] (lkFieldAddr (nat_lit 4) g58) p59 
(dTurn (nat_lit 17) [(nat_lit 8), (nat_lit 10)] [(nat_lit 14)] true (xTurn (tnStore (nat_lit 32) g59 g50)) noDst 
(dTurn (nat_lit 18) [] [(nat_lit 14), (nat_lit 17)] false (xNil g46) p60 
(dLook (nat_lit 19) [] [(nat_lit 14), (nat_lit 17)] (lkFieldAddr (nat_lit 36) g60) p61 
(dTurn (nat_lit 20) [] [(nat_lit 14), (nat_lit 17)] true (xTurn (tnStore (nat_lit 2) g61 g55)) noDst (dEnd [(nat_lit 44), (nat_lit 45), (nat_lit 46), (nat_lit 47), (nat_lit 48), (nat_lit 49), (nat_lit 50), (nat_lit 51), (nat_lit 52), (nat_lit 53), (nat_lit 54), (nat_lit 55), (nat_lit 56), (nat_lit 57), (nat_lit 58), (nat_lit 59), (nat_lit 60), (nat_lit 61)]))))))))))))))))))))))) (kSeq (kSeq (oSet (xMove g0) p62 
(oSet (xMove g6) p63 
(oSet (xNil g63) p64 
(oSet (xLook (lkFieldAddr (nat_lit 36) g64)) p65 
(oSet (xLook (lkLoadN (nat_lit 2) g65)) p66 
(oSet (xCall q46 [g62, g66]) p67 
(oSet (xLook (lkUn .not g67)) p68 
oEnd))))))) (kCond g68 (kSeq (oSet (xMove q3) p2 
(oSet (xMove q47) p3 
oEnd)) kRet) kSkip)) (kSeq (kDraw 
(dLook (nat_lit 0) [] [] (lkMove g0) p70 
(dLook (nat_lit 1) [] [] (lkFieldAddr (nat_lit 33) g7) p71 
(dLook (nat_lit 2) [] [] (lkLoad1 g71) p72 
(dLook (nat_lit 3) [] [] (lkMove g6) p73 
(dTurn (nat_lit 4) [] [] false (xNil g73) p74 
(dLook (nat_lit 5) [] [] (lkFieldAddr (nat_lit 36) g74) p75 
(dLook (nat_lit 6) [] [] (lkLoadN (nat_lit 2) g75) p76 
(dTurn (nat_lit 7) [(nat_lit 2)] [] true (xCall q49 [g76]) p77 
(dTurn (nat_lit 8) [] [(nat_lit 7)] true (xCall q48 [g70, g72, g77]) p78 
(dLook (nat_lit 9) [] [(nat_lit 7), (nat_lit 8)] (lkMove g78) p69 
(dLook (nat_lit 10) [] [(nat_lit 7), (nat_lit 8)] (lkExtract (nat_lit 0) g69) p79 
(dLook (nat_lit 11) [] [(nat_lit 7), (nat_lit 8)] (lkExtract (nat_lit 1) g69) p80 
(dLook (nat_lit 12) [] [(nat_lit 7), (nat_lit 8)] (lkMove g79) p10 
(dLook (nat_lit 13) [] [(nat_lit 7), (nat_lit 8)] (lkMove g80) p9 (dEnd [(nat_lit 70), (nat_lit 71), (nat_lit 72), (nat_lit 73), (nat_lit 74), (nat_lit 75), (nat_lit 76), (nat_lit 77), (nat_lit 78), (nat_lit 69), (nat_lit 79), (nat_lit 80), (nat_lit 10), (nat_lit 9)])))))))))))))))) (kSeq (kSeq (oSet (xMove g9) p81 
(oSet (xLook (lkEq true .int g81 q6)) p82 
oEnd)) (kCond g82 (kSeq (oSet (xMove g9) p83 
(oSet (xMove q3) p2 
(oSet (xMove g83) p3 
oEnd))) kRet) kSkip)) (kSeq (oSet (xMove g10) p85 
(oSet (xCall q50 [g85]) p86 
(oSet (xMove g86) p84 
(oSet (xLook (lkExtract (nat_lit 0) g84)) p87 
(oSet (xLook (lkExtract (nat_lit 1) g84)) p88 
(oSet (xLook (lkExtract (nat_lit 2) g84)) p89 
(oSet (xMove g87) p11 
(oSet (xMove g88) p12 
(oSet (xMove g89) p9 
oEnd))))))))) (kSeq (kSeq (oSet (xMove g9) p90 
(oSet (xLook (lkEq true .int g90 q6)) p91 
(oSet (xMove g91) p92 
(oSetIf (wantF g92) (xMove g11) p93 
(oSetIf (wantF g92) (xLook (lkEq true .int g93 q7)) p94 
(oSet (xLook (lkPick g92 q13 g94)) p95 
(oSet (xMove g95) p96 
(oSetIf (wantF g96) (xMove g12) p97 
(oSetIf (wantF g96) (xLook (lkLen .sl g97)) p98 
(oSetIf (wantF g96) (xLook (lkFieldAddr (nat_lit 34) g7)) p99 
(oSetIf (wantF g96) (xLook (lkLoad1 g99)) p100 
(oSetIf (wantF g96) (xLook (lkEq true .int g98 g100)) p101 
(oSet (xLook (lkPick g96 q13 g101)) p102 
oEnd))))))))))))) (kCond g102 (kSeq (oSet (xMove q3) p2 
(oSet (xMove q47) p3 
oEnd)) kRet) kSkip)) (kSeq (oSet (xMove g0) p104 
(oSet (xMove g12) p105 
(oSet (xMove g6) p106 
(oSet (xNil g106) p107 
(oSet (xLook (lkFieldAddr (nat_lit 36) g107)) p108 
(oSet (xLook (lkLoadN (nat_lit 2) g108)) p109 
(oSet (xCall q51 [g104, g105, g109]) p110 
(oSet (xMove g110) p103 
(oSet (xLook (lkExtract (nat_lit 0) g103)) p111 
(oSet (xLook (lkExtract (nat_lit 1) g103)) p112 
(oSet (xMove g111) p13 
(oSet (xMove g112) p14 
oEnd)))))))))))) (kSeq (kSeq (oSet (xMove g14) p113 
(oSet (xLook (lkUn .not g113)) p114 
oEnd)) (kCond g114 (kSeq (oSet (xMove q3) p2 
(oSet (xMove q47) p3 
oEnd)) kRet) kSkip)) (kSeq (oSet (xMove g6) p115 
(oSet (xMove g13) p116 
(oSet (xNil g115) p117 
(oSet (xLook (lkFieldAddr (nat_lit 38) g117)) p118 
(oDo (xTurn (tnStore (nat_lit 1) g118 g116)) 
oEnd))))) (kSeq (oSet (xMove g6) p119 
(oSet (xMove g119) p2 
(oSet (xMove q6) p3 
oEnd))) kRet))))))))))))))))⟩
noncomputable def k24 : KFun := ⟨[rTmp (nat_lit 4) g4], (kSeq (oSet (xMove q0) p4 
oEnd) (kSeq (oSet (xMove g0) p8 
(oSet (xMove g1) p9 
(oSet (xTurn (tnToBytes g9)) p10 
(oSet (xCall q30 [g10]) p11 
(oSet (xCall q10 [g8, g11]) p12 
(oSet (xMove g12) p7 
(oSet (xLook (lkExtract (nat_lit 0) g7)) p13 
(oSet (xLook (lkExtract (nat_lit 1) g7)) p14 
(oSet (xMove g13) p5 
(oSet (xMove g14) p6 
oEnd)))))))))) (kSeq (oSet (xMove g6) p15 
(oSet (xLook (lkEq false .int g15 q6)) p16 
(oSet (xMove g16) p17 
(oSetIf (wantT g17) (xMove g5) p18 
(oSetIf (wantT g17) (xLook (lkBytesTo g18)) p19 
(oSetIf (wantT g17) (xMove g1) p20 
(oSetIf (wantT g17) (xLook (lkEq false .str g19 g20)) p21 
(oSet (xLook (lkPick g17 g21 q0)) p22 
(oSet (xMove g22) p4 
oEnd))))))))) kRet)))⟩
def q52 : List Value := [(.map none)]
def q53 : OpdF := kC (.func (.func (nat_lit 94)) ⟨[]⟩ ⟨[]⟩)
noncomputable def k25 : KFun := ⟨[rTmp (nat_lit 4) g4, rTmp (nat_lit 5) g5], (kSeq (oSet (xMove q6) p4 
(oSet (xMove q6) p5 
oEnd)) (kSeq (kSeq (oSet (xMove g0) p16 
(oSet (xCall q26 [g16]) p17 
(oSet (xMove g17) p6 
oEnd))) (kSeq (oSet (xMove g6) p18 
(oSet (xLook (lkEq true .int g18 q6)) p19 
oEnd)) (kCond g19 (kSeq (oSet (xMove g6) p20 
(oSet (xMove q6) p4 
(oSet (xMove g20) p5 
oEnd))) kRet) kSkip))) (kSeq (oSet (xTurn (tnMkMap (.many (nat_lit 32) .u8))) p21 
(oSet (xTurn (tnAlloc q52)) p7 
(oDo (xTurn (tnStore (nat_lit 1) g7 g21)) 
oEnd))) (kSeq (kSeq (oSet (xMove g1) p22 
(oSet (xLook (lkLen .sl g22)) p23 
(oSet (xMove q6) p24 
oEnd))) (kBlock (nat_lit 0) (kLoop (kSeq (oSet (xLook (lkBin .lss g24 g23)) p25 
oEnd) (kSeq (kCond g25 kSkip (kExit (nat_lit 0))) (kSeq (kBlock (nat_lit 1) (kSeq (oSet (xLook (lkIxSl (nat_lit 32) g22 g24)) p26 
(oSet (xLook (lkLoadN (nat_lit 32) g26)) p27 
(oSet (xTurn (tnAlloc q9)) p9 
(oDo (xTurn (tnStore (nat_lit 32) g9 g27)) 
oEnd)))) (oSet (xLook (lkLoad1 g7)) p28 
(oSet (xLook (lkLoadN (nat_lit 32) g9)) p29 
(oSet (xLook (lkBuild [] [])) p30 
(oDo (xTurn (tnMapUpdate (.many (nat_lit 32) .u8) g28 g29 g30)) 
oEnd)))))) (oSet (xLook (lkBin .add g24 q14)) p31 
(oSet (xMove g31) p24 
oEnd)))))))) (kSeq (oSet (xMove q6) p10 
oEnd) (kSeq (kSeq (oSet (xMove g0) p32 
(oSet (xCall q38 [g32]) p33 
(oSet (xTurn (tnRangeMap g33)) p34 
oEnd))) (kBlock (nat_lit 2) (kLoop (kSeq (oSet (xNextMap g34) p35 
(oSet (xLook (lkExtract (nat_lit 0) g35)) p36 
oEnd)) (kSeq (kCond g36 kSkip (kExit (nat_lit 2))) (kBlock (nat_lit 3) (kSeq (oSet (xLook (lkEntry g34)) p37 
(oSet (xLook (lkExtract (nat_lit 0) g37)) p38 
(oSet (xTurn (tnAlloc q9)) p11 
(oDo (xTurn (tnStore (nat_lit 32) g11 g38)) 
oEnd)))) (kSeq (kSeq (oSet (xLook (lkLoad1 g7)) p40 
(oSet (xLook (lkLoadN (nat_lit 32) g11)) p41 
(oSet (xLook (lkLookup (.many (nat_lit 32) .u8) (.agg ⟨[]⟩) true g40 g41)) p42 
(oSet (xMove g42) p39 
(oSet (xLook (lkExtract (nat_lit 0) g39)) p43 
(oSet (xLook (lkExtract (nat_lit 1) g39)) p44 
(oSet (xTurn (tnAlloc [])) p12 
(oDo (xTurn (tnStore (nat_lit 0) g12 g43)) 
(oSet (xMove g44) p13 
oEnd))))))))) (kSeq (oSet (xMove g13) p45 
oEnd) (kCond g45 (kExit (nat_lit 3)) kSkip))) (kSeq (oSet (xMove g10) p46 
(oSet (xLook (lkBin .add g46 q14)) p47 
(oSet (xMove g47) p10 
oEnd))) (kSeq (kDraw 
(dLook (nat_lit 0) [] [] (lkMove g0) p49 
(dTurn (nat_lit 1) [] [] false (xNil g49) p50 
(dLook (nat_lit 2) [] [] (lkFieldAddr (nat_lit 38) g50) p51 
(dLook (nat_lit 3) [] [] (lkLoad1 g51) p52 
(dLook (nat_lit 4) [] [] (lkLoadN (nat_lit 32) g11) p53 
(dLook (nat_lit 5) [] [] (lkLookup (.many (nat_lit 32) .u8) (.agg ⟨[(.int .i64 (.ofNat (nat_lit 0))), (.int .i64 (.ofNat (nat_lit 0)))]⟩) true g52 g53) p54 
(dLook (nat_lit 6) [] [] (lkMove g54) p48 
(dLook (nat_lit 7) [] [] (lkExtract (nat_lit 0) g48) p55 
(dLook (nat_lit 8) [] [] (lkExtract (nat_lit 1) g48) p56 
(dTurn (nat_lit 9) [] [] false (xTurn (tnAlloc q40)) p14 
(dTurn (nat_lit 10) [] [] true (xTurn (tnStore (nat_lit 2) g14 g55)) noDst 
(dLook (nat_lit 11) [] [(nat_lit 10)] (lkMove g56) p15 (dEnd [(nat_lit 49), (nat_lit 50), (nat_lit 51), (nat_lit 52), (nat_lit 53), (nat_lit 54), (nat_lit 48), (nat_lit 55), (nat_lit 56), (nat_lit 14), (nat_lit 15)])))))))))))))) (kSeq (oSet (xMove g15) p57 
oEnd) (kCond g57 (kDraw 
(dLook (nat_lit 0) [] [] (lkMove g0) p58 
(dTurn (nat_lit 1) [] [] false (xNil g58) p59 
(dLook (nat_lit 2) [] [] (lkFieldAddr (nat_lit 0) g59) p60 
(dLook (nat_lit 3) [] [] (lkFieldAddr (nat_lit 1) g60) p61 
(dLook (nat_lit 4) [] [] (lkLoad1 g61) p62 
(dLook (nat_lit 5) [] [] (lkLoadN (nat_lit 32) g11) p63 
(dLook (nat_lit 6) [] [] (lkBuild [] []) p64 
(dTurn (nat_lit 7) [] [] true (xTurn (tnMapUpdate (.many (nat_lit 32) .u8) g62 g63 g64)) noDst (dEnd [(nat_lit 58), (nat_lit 59), (nat_lit 60), (nat_lit 61), (nat_lit 62), (nat_lit 63), (nat_lit 64)])))))))))) kSkip)))))))))))) (kSeq (oSet (xMove g0) p65 
(oSet (xMove g0) p66 
(oSet (xNil g66) p67 
(oSet (xLook (lkFieldAddr (nat_lit 0) g67)) p68 
(oSet (xLook (lkFieldAddr (nat_lit 0) g68)) p69 
(oSet (xLook (lkLoad1 g69)) p70 
(oSet (xLook (lkMkFunc (.func (nat_lit 95)) [] [g7])) p71 
(oSet (xCall q53 [g70, g71]) p72 
(oSet (xNil g65) p73 
(oSet (xLook (lkFieldAddr (nat_lit 0) g73)) p74 
(oSet (xLook (lkFieldAddr (nat_lit 0) g74)) p75 
(oDo (xTurn (tnStore (nat_lit 1) g75 g72)) 
oEnd)))))))))))) (kSeq (oSet (xMove g10) p76 
(oSet (xMove g76) p4 
(oSet (xMove q6) p5 
oEnd))) kRet))))))))⟩
noncomputable def k26d0 : KD := 
(dLook (nat_lit 16) [] [(nat_lit 6), (nat_lit 14)] (lkPick g28 q13 g34) p35 
(dLook (nat_lit 17) [] [(nat_lit 6), (nat_lit 14)] (lkMove g35) p4 (dEnd [(nat_lit 19), (nat_lit 20), (nat_lit 21), (nat_lit 22), (nat_lit 23), (nat_lit 24), (nat_lit 25), (nat_lit 26), (nat_lit 27), (nat_lit 28), (nat_lit 29), (nat_lit 30), (nat_lit 31), (nat_lit 32), (nat_lit 33), (nat_lit 34), (nat_lit 35), (nat_lit 4)])))
def q54 : OpdF := kC (.func (.func (nat_lit 97)) ⟨[]⟩ ⟨[]⟩)
noncomputable def k26d1 : KD := 
(dIf [(nat_lit 6), (nat_lit 14)] (wantF g28) p34 (dLook (nat_lit 15) [] [(nat_lit 6), (nat_lit 14)] (lkBin .geq g33 q6) p34 k26d0) k26d0)
noncomputable def k26d2 : KD := 
(dIf [(nat_lit 6)] (wantF g28) p33 (dTurn (nat_lit 14) [] [(nat_lit 6)] true (xCall q54 [g31, g32]) p33 k26d1) k26d1)
noncomputable def k26d3 : KD := 
(dIf [(nat_lit 6)] (wantF g28) p32 (dLook (nat_lit 13) [] [(nat_lit 6)] (lkLoadN (nat_lit 32) g3) p32 k26d2) k26d2)
noncomputable def k26d4 : KD := 
(dIf [(nat_lit 6)] (wantF g28) p31 (dLook (nat_lit 12) [] [(nat_lit 6)] (lkFieldAddr (nat_lit 0) g30) p31 k26d3) k26d3)
noncomputable def k26d5 : KD := 
(dIf [(nat_lit 6)] (wantF g28) p30 (dTurn (nat_lit 11) [] [(nat_lit 6)] false (xNil g29) p30 k26d4) k26d4)
noncomputable def k26d6 : KD := 
(dLook (nat_lit 8) [] [(nat_lit 6)] (lkPick g20 g26 q0) p27 
(dLook (nat_lit 9) [] [(nat_lit 6)] (lkMove g27) p28 
(dIf [(nat_lit 6)] (wantF g28) p29 (dLook (nat_lit 10) [] [(nat_lit 6)] (lkMove g0) p29 k26d5) k26d5)))
def q55 : OpdF := kC (.func (.func (nat_lit 96)) ⟨[]⟩ ⟨[]⟩)
noncomputable def k26d7 : KD := 
(dIf [(nat_lit 6)] (wantT g20) p26 (dLook (nat_lit 7) [] [(nat_lit 6)] (lkUn .not g25) p26 k26d6) k26d6)
noncomputable def k26d8 : KD := 
(dIf [] (wantT g20) p25 (dTurn (nat_lit 6) [] [] true (xCall q55 [g23, g24]) p25 k26d7) k26d7)
noncomputable def k26d9 : KD := 
(dIf [] (wantT g20) p24 (dLook (nat_lit 5) [] [] (lkLoadN (nat_lit 32) g3) p24 k26d8) k26d8)
noncomputable def k26d10 : KD := 
(dIf [] (wantT g20) p23 (dLook (nat_lit 4) [] [] (lkFieldAddr (nat_lit 0) g22) p23 k26d9) k26d9)
noncomputable def k26d11 : KD := 
(dIf [] (wantT g20) p22 (dTurn (nat_lit 3) [] [] false (xNil g21) p22 k26d10) k26d10)
noncomputable def k26 : KFun := ⟨[rTmp (nat_lit 4) g4], (kSeq (oSet (xTurn (tnBox g1)) p3 
(oSet (xMove q0) p4 
oEnd)) (kSeq (kSeq (oSet (xMove g0) p7 
(oSet (xCall q26 [g7]) p8 
(oSet (xLook (lkEq true .int g8 q6)) p9 
oEnd))) (kCond g9 (kSeq (oSet (xMove q0) p4 
oEnd) kRet) kSkip)) (kSeq (kDraw 
(dLook (nat_lit 0) [] [] (lkMove g0) p11 
(dTurn (nat_lit 1) [] [] false (xNil g11) p12 
(dLook (nat_lit 2) [] [] (lkFieldAddr (nat_lit 38) g12) p13 
(dLook (nat_lit 3) [] [] (lkLoad1 g13) p14 
(dLook (nat_lit 4) [] [] (lkLoadN (nat_lit 32) g3) p15 
(dLook (nat_lit 5) [] [] (lkLookup (.many (nat_lit 32) .u8) (.agg ⟨[(.int .i64 (.ofNat (nat_lit 0))), (.int .i64 (.ofNat (nat_lit 0)))]⟩) true g14 g15) p16 
(dLook (nat_lit 6) [] [] (lkMove g16) p10 
(dLook (nat_lit 7) [] [] (lkExtract (nat_lit 0) g10) p17 
(dLook (nat_lit 8) [] [] (lkExtract (nat_lit 1) g10) p18 
(dTurn (nat_lit 9) [] [] false (xTurn (tnAlloc q40)) p5 
(dTurn (nat_lit 10) [] [] true (xTurn (tnStore (nat_lit 2) g5 g17)) noDst 
(dLook (nat_lit 11) [] [(nat_lit 10)] (lkMove g18) p6 (dEnd [(nat_lit 11), (nat_lit 12), (nat_lit 13), (nat_lit 14), (nat_lit 15), (nat_lit 16), (nat_lit 10), (nat_lit 17), (nat_lit 18), (nat_lit 5), (nat_lit 6)])))))))))))))) (kSeq (kDraw 
(dLook (nat_lit 0) [] [] (lkMove g6) p19 
(dLook (nat_lit 1) [] [] (lkMove g19) p20 
(dIf [] (wantT g20) p21 (dLook (nat_lit 2) [] [] (lkMove g0) p21 k26d11) k26d11)))) kRet))))⟩
def q56 : OpdF := kC (.func (.func (nat_lit 99)) ⟨[]⟩ ⟨[]⟩)
def q57 : OpdF := kC (.func (.func (nat_lit 98)) ⟨[]⟩ ⟨[]⟩)
noncomputable def k27 : KFun := ⟨[rTmp (nat_lit 2) g2], (kSeq (oSet (xMove q6) p2 
oEnd) (kSeq (kSeq (oSet (xMove g0) p3 
(oSet (xCall q26 [g3]) p4 
(oSet (xLook (lkEq true .int g4 q6)) p5 
oEnd))) (kCond g5 (kSeq (oSet (xMove q6) p2 
oEnd) kRet) kSkip)) (kSeq (oSet (xMove g0) p6 
(oSet (xCall q56 [g6]) p7 
(oSet (xCall q57 [g7]) p8 
(oSet (xMove g8) p2 
oEnd)))) kRet)))⟩
noncomputable def k28d0 : KD := 
(dLook (nat_lit 18) [] [(nat_lit 15)] (lkPick g83 q13 g87) p88 (dEnd [(nat_lit 70), (nat_lit 71), (nat_lit 72), (nat_lit 73), (nat_lit 74), (nat_lit 75), (nat_lit 76), (nat_lit 77), (nat_lit 78), (nat_lit 79), (nat_lit 80), (nat_lit 81), (nat_lit 82), (nat_lit 83), (nat_lit 84), (nat_lit 85), (nat_lit 86), (nat_lit 87), (nat_lit 88)]))
noncomputable def k28d1 : KD := 
(dIf [(nat_lit 15)] (wantF g83) p87 (dLook (nat_lit 17) [] [(nat_lit 15)] (lkEq true (.flat [(.int .u8), (.int .u8), (.int .u8), (.int .u8), (.int .u8), (.int .u8), (.int .u8), (.int .u8), (.int .u8), (.int .u8), (.int .u8), (.int .u8), (.int .u8), (.int .u8), (.int .u8), (.int .u8), (.int .u8), (.int .u8), (.int .u8), (.int .u8), (.int .u8), (.int .u8), (.int .u8), (.int .u8), (.int .u8), (.int .u8), (.int .u8), (.int .u8), (.int .u8), (.int .u8), (.int .u8), (.int .u8)]) g85 g86) p87 k28d0) k28d0)
noncomputable def k28d2 : KD := 
(dIf [] (wantF g83) p86 (dLook (nat_lit 16) [(nat_lit 15)] [] (lkLoadN (nat_lit 32) g3) p86 k28d1) k28d1)
noncomputable def k28d3 : KD := 
(dIf [] (wantF g83) p85 (dTurn (nat_lit 15) [] [] true (xCall q30 [g84]) p85 k28d2) k28d2)
noncomputable def k28d4 : KD := 
(dLook (nat_lit 12) [] [] (lkPick g76 q13 g81) p82 
(dLook (nat_lit 13) [] [] (lkMove g82) p83 
(dIf [] (wantF g83) p84 (dLook (nat_lit 14) [] [] (lkMove g12) p84 k28d3) k28d3)))
noncomputable def k28d5 : KD := 
(dIf [] (wantF g76) p81 (dLook (nat_lit 11) [] [] (lkEq true .int g78 g80) p81 k28d4) k28d4)
noncomputable def k28d6 : KD := 
(dIf [] (wantF g76) p80 (dLook (nat_lit 10) [] [] (lkLoad1 g79) p80 k28d5) k28d5)
noncomputable def k28d7 : KD := 
(dIf [] (wantF g76) p79 (dLook (nat_lit 9) [] [] (lkFieldAddr (nat_lit 1) g8) p79 k28d6) k28d6)
noncomputable def k28d8 : KD := 
(dIf [] (wantF g76) p78 (dLook (nat_lit 8) [] [] (lkLen .sl g77) p78 k28d7) k28d7)
noncomputable def k28d9 : KD := 
(dLook (nat_lit 5) [] [] (lkPick g72 q13 g74) p75 
(dLook (nat_lit 6) [] [] (lkMove g75) p76 
(dIf [] (wantF g76) p77 (dLook (nat_lit 7) [] [] (lkMove g12) p77 k28d8) k28d8)))
noncomputable def k28d10 : KD := 
(dIf [] (wantF g72) p74 (dLook (nat_lit 4) [] [] (lkEq true .int g73 q14) p74 k28d9) k28d9)
noncomputable def k28 : KFun := ⟨[rTmp (nat_lit 4) g4, rTmp (nat_lit 5) g5], (kSeq (oSet (xTurn (tnBox g1)) p3 
(oSet (xMove q12) p4 
(oSet (xMove q6) p5 
oEnd))) (kSeq (kSeq (oSet (xMove g0) p13 
(oSet (xCall q26 [g13]) p14 
(oSet (xMove g14) p6 
oEnd))) (kSeq (oSet (xMove g6) p15 
(oSet (xLook (lkEq true .int g15 q6)) p16 
oEnd)) (kCond g16 (kSeq (oSet (xMove g6) p17 
(oSet (xMove q12) p4 
(oSet (xMove g17) p5 
oEnd))) kRet) kSkip))) (kSeq (kSeq (oSet (xMove g0) p18 
(oSet (xLook (lkLoadN (nat_lit 32) g3)) p19 
(oSet (xCall q22 [g18, g19]) p20 
(oSet (xLook (lkUn .not g20)) p21 
oEnd)))) (kCond g21 (kSeq (oSet (xMove q12) p4 
(oSet (xMove q31) p5 
oEnd)) kRet) kSkip)) (kSeq (kSeq (kDraw 
(dLook (nat_lit 0) [] [] (lkMove g0) p22 
(dTurn (nat_lit 1) [] [] false (xNil g22) p23 
(dLook (nat_lit 2) [] [] (lkFieldAddr (nat_lit 0) g23) p24 
(dLook (nat_lit 3) [] [] (lkLoadN (nat_lit 32) g3) p25 
(dTurn (nat_lit 4) [] [] true (xCall q54 [g24, g25]) p26 
(dLook (nat_lit 5) [] [(nat_lit 4)] (lkMove g26) p7 (dEnd [(nat_lit 22), (nat_lit 23), (nat_lit 24), (nat_lit 25), (nat_lit 26), (nat_lit 7)])))))))) (kSeq (oSet (xMove g7) p27 
(oSet (xLook (lkBin .geq g27 q6)) p28 
oEnd)) (kCond g28 (kSeq (oSet (xTurn (tnBuildSlice [] [] (nat_lit 0))) p29 
(oSet (xMove g0) p30 
(oSet (xNil g30) p31 
(oSet (xLook (lkFieldAddr (nat_lit 0) g31)) p32 
(oSet (xLook (lkFieldAddr (nat_lit 0) g32)) p33 
(oSet (xLook (lkLoad1 g33)) p34 
(oSet (xMove g7) p35 
(oSet (xLook (lkIxSl (nat_lit 35) g34 g35)) p36 
(oSet (xLook (lkFieldAddr (nat_lit 34) g36)) p37 
(oSet (xLook (lkLoad1 g37)) p38 
(oSet (xTurn (tnAppend (nat_lit 1) g29 g38)) p39 
(oSet (xMove g39) p4 
(oSet (xMove q6) p5 
oEnd))))))))))))) kRet) kSkip))) (kSeq (kDraw 
(dLook (nat_lit 0) [] [] (lkMove g0) p40 
(dTurn (nat_lit 1) [] [] false (xNil g40) p41 
(dLook (nat_lit 2) [] [] (lkFieldAddr (nat_lit 38) g41) p42 
(dLook (nat_lit 3) [] [] (lkLoad1 g42) p43 
(dLook (nat_lit 4) [] [] (lkLoadN (nat_lit 32) g3) p44 
(dLook (nat_lit 5) [] [] (lkLookup (.many (nat_lit 32) .u8) (.agg ⟨[(.int .i64 (.ofNat (nat_lit 0))), (.int .i64 (.ofNat (nat_lit 0)))]⟩) false g43 g44) p45 
(dTurn (nat_lit 6) [] [] false (xTurn (tnAlloc q40)) p8 
(dTurn (nat_lit 7) [] [] true (xTurn (tnStore (nat_lit 2) g8 g45)) noDst (dEnd [(nat_lit 40), (nat_lit 41), (nat_lit 42), (nat_lit 43), (nat_lit 44), (nat_lit 45), (nat_lit 8)])))))))))) (kSeq (kDraw 
(dLook (nat_lit 0) [] [] (lkMove g0) p47 
(dTurn (nat_lit 1) [] [] false (xNil g47) p48 
(dLook (nat_lit 2) [] [] (lkFieldAddr (nat_lit 2) g48) p49 
(dLook (nat_lit 3) [] [] (lkLoad1 g49) p50 
(dLook (nat_lit 4) [] [] (lkFieldAddr (nat_lit 0) g8) p51 
(dLook (nat_lit 5) [] [] (lkLoad1 g51) p52 
(dLook (nat_lit 6) [] [] (lkLoadN (nat_lit 2) g8) p53 
(dTurn (nat_lit 7) [(nat_lit 3), (nat_lit 5)] [] true (xCall q49 [g53]) p54 
(dTurn (nat_lit 8) [] [(nat_lit 7)] true (xCall q48 [g50, g52, g54]) p55 
(dLook (nat_lit 9) [] [(nat_lit 7), (nat_lit 8)] (lkMove g55) p46 
(dLook (nat_lit 10) [] [(nat_lit 7), (nat_lit 8)] (lkExtract (nat_lit 0) g46) p56 
(dLook (nat_lit 11) [] [(nat_lit 7), (nat_lit 8)] (lkExtract (nat_lit 1) g46) p57 
(dLook (nat_lit 12) [] [(nat_lit 7), (nat_lit 8)] (lkMove g56) p9 
(dLook (nat_lit 13) [] [(nat_lit 7), (nat_lit 8)] (lkMove g57) p10 (dEnd [(nat_lit 47), (nat_lit 48), (nat_lit 49), (nat_lit 50), (nat_lit 51), (nat_lit 52), (nat_lit 53), (nat_lit 54), (nat_lit 55), (nat_lit 46), (nat_lit 56), (nat_lit 57), (nat_lit 9), (nat_lit 10)])))))))))))))))) (kSeq (kSeq (oSet (xMove g10) p58 
(oSet (xLook (lkEq true .int g58 q6)) p59 
oEnd)) (kCond g59 (kSeq (oSet (xMove g0) p60 
(oSet (xNil g60) p61 
(oSet (xLook (lkFieldAddr (nat_lit 39) g61)) p62 
(oDo (xTurn (tnStore (nat_lit 1) g62 q13)) 
oEnd)))) (kSeq (oSet (xMove g10) p63 
(oSet (xMove q12) p4 
(oSet (xMove g63) p5 
oEnd))) kRet)) kSkip)) (kSeq (oSet (xMove g9) p65 
(oSet (xCall q50 [g65]) p66 
(oSet (xMove g66) p64 
(oSet (xLook (lkExtract (nat_lit 0) g64)) p67 
(oSet (xLook (lkExtract (nat_lit 1) g64)) p68 
(oSet (xLook (lkExtract (nat_lit 2) g64)) p69 
(oSet (xMove g67) p11 
(oSet (xMove g68) p12 
(oSet (xMove g69) p10 
oEnd))))))))) (kSeq (kSeq (kDraw 
(dLook (nat_lit 0) [] [] (lkMove g10) p70 
(dLook (nat_lit 1) [] [] (lkEq true .int g70 q6) p71 
(dLook (nat_lit 2) [] [] (lkMove g71) p72 
(dIf [] (wantF g72) p73 (dLook (nat_lit 3) [] [] (lkMove g11) p73 k28d10) k28d10))))) (kCond g88 (kSeq (oSet (xMove q12) p4 
(oSet (xMove q47) p5 
oEnd)) kRet) kSkip)) (kSeq (oSet (xMove g12) p89 
(oSet (xMove g89) p4 
(oSet (xMove q6) p5 
oEnd))) kRet))))))))))⟩
def q58 : OpdF := kC (.func (.func (nat_lit 17)) ⟨[]⟩ ⟨[]⟩)
def q59 : OpdF := kC (.int .i64 (.ofNat (nat_lit 16)))
def q60 : List Value := [(.int .u8 (.ofNat (nat_lit 0))), (.int .u8 (.ofNat (nat_lit 0)))]
def q61 : OpdF := kC (.int .u8 (.ofNat (nat_lit 97)))
def q62 : OpdF := kC (.int .u8 (.ofNat (nat_lit 98)))
def q63 : OpdF := kC (.int .i64 (.ofNat (nat_lit 14)))
def q64 : OpdF := kC (.func (.func (nat_lit 21)) ⟨[]⟩ ⟨[]⟩)
def q65 : OpdF := kC (.string ⟨⟨[97, 98]⟩⟩)
def q66 : OpdF := kC (.int .i64 (.ofNat (nat_lit 13)))
def q67 : OpdF := kC (.func (.func (nat_lit 24)) ⟨[]⟩ ⟨[]⟩)
noncomputable def k29 : KFun := ⟨[rTmp (nat_lit 0) g0], (kSeq (oSet (xMove q0) p0 
oEnd) (kSeq (oSet (xCall q58 [q59]) p5 
(oSet (xMove g5) p4 
(oSet (xLook (lkExtract (nat_lit 0) g4)) p6 
(oSet (xLook (lkExtract (nat_lit 1) g4)) p7 
(oSet (xMove g6) p1 
(oSet (xMove g7) p2 
oEnd)))))) (kSeq (kSeq (oSet (xMove g1) p8 
(oSet (xLook (lkEq false .ptr g8 q3)) p9 
(oSet (xMove g9) p10 
(oSetIf (wantF g10) (xMove g2) p11 
(oSetIf (wantF g10) (xLook (lkEq false .ptr g11 q3)) p12 
(oSet (xLook (lkPick g10 q13 g12)) p13 
oEnd)))))) (kCond g13 (kSeq (oSet (xMove q0) p0 
oEnd) kRet) kSkip)) (kSeq (oSet (xTurn (tnBuildSlice q60 [((nat_lit 0), (nat_lit 1), q61), ((nat_lit 1), (nat_lit 1), q62)] (nat_lit 2))) p14 
(oSet (xTurn (tnStamp g14)) p15 
(oSet (xCall q30 [g15]) p16 
(oSet (xTurn (tnAlloc q9)) p3 
(oDo (xTurn (tnStore (nat_lit 32) g3 g16)) 
oEnd))))) (kSeq (oSet (xMove g2) p17 
(oSet (xCall q18 [g17]) p18 
(oSet (xLook (lkEq false .int g18 q63)) p19 
(oSet (xMove g19) p20 
(oSetIf (wantT g20) (xMove g2) p21 
(oSetIf (wantT g20) (xCall q64 [g21, q65, q6]) p22 
(oSet (xLook (lkPick g20 g22 q0)) p23 
(oSet (xMove g23) p24 
(oSetIf (wantT g24) (xMove g2) p25 
(oSetIf (wantT g24) (xLook (lkLoadN (nat_lit 32) g3)) p26 
(oSetIf (wantT g24) (xCall q22 [g25, g26]) p27 
(oSet (xLook (lkPick g24 g27 q0)) p28 
(oSet (xMove g28) p29 
(oSetIf (wantT g29) (xMove g2) p30 
(oSetIf (wantT g29) (xCall q18 [g30]) p31 
(oSetIf (wantT g29) (xLook (lkEq false .int g31 q66)) p32 
(oSet (xLook (lkPick g29 g32 q0)) p33 
(oSet (xMove g33) p34 
(oSetIf (wantT g34) (xMove g2) p35 
(oSetIf (wantT g34) (xCall q67 [g35, q65]) p36 
(oSet (xLook (lkPick g34 g36 q0)) p37 
(oSet (xMove g37) p38 
(oSetIf (wantT g38) (xMove g2) p39 
(oSetIf (wantT g38) (xLook (lkLoadN (nat_lit 32) g3)) p40 
(oSetIf (wantT g38) (xCall q16 [g39, g40]) p41 
(oSetIf (wantT g38) (xLook (lkEq false .int g41 q6)) p42 
(oSet (xLook (lkPick g38 g42 q0)) p43 
(oSet (xMove g43) p44 
(oSetIf (wantT g44) (xMove g2) p45 
(oSetIf (wantT g44) (xCall q20 [g45]) p46 
(oSetIf (wantT g44) (xLook (lkEq false .int g46 q14)) p47 
(oSet (xLook (lkPick g44 g47 q0)) p48 
(oSet (xMove g48) p49 
(oSetIf (wantT g49) (xMove g2) p50 
(oSetIf (wantT g49) (xCall q18 [g50]) p51 
(oSetIf (wantT g49) (xLook (lkEq false .int g51 q47)) p52 
(oSet (xLook (lkPick g49 g52 q0)) p53 
(oSet (xMove g53) p0 
oEnd)))))))))))))))))))))))))))))))))))))) kRet)))))⟩
def q68 : OpdF := kC (.int .i64 (.ofNat (nat_lit 65536)))
def q69 : OpdF := kC (.int .i64 (.ofNat (nat_lit 3)))
noncomputable def k30d0 : KD := 
(dLook (nat_lit 8) [] [(nat_lit 6)] (lkPick g34 q13 g40) p41 (dEnd [(nat_lit 33), (nat_lit 34), (nat_lit 35), (nat_lit 36), (nat_lit 37), (nat_lit 38), (nat_lit 39), (nat_lit 40), (nat_lit 41)]))
noncomputable def k30d1 : KD := 
(dIf [(nat_lit 6)] (wantF g34) p40 (dLook (nat_lit 7) [] [(nat_lit 6)] (lkBin .geq g39 q6) p40 k30d0) k30d0)
noncomputable def k30d2 : KD := 
(dIf [] (wantF g34) p39 (dTurn (nat_lit 6) [] [] true (xCall q54 [g37, g38]) p39 k30d1) k30d1)
noncomputable def k30d3 : KD := 
(dIf [] (wantF g34) p38 (dLook (nat_lit 5) [] [] (lkLoadN (nat_lit 32) g7) p38 k30d2) k30d2)
noncomputable def k30d4 : KD := 
(dIf [] (wantF g34) p37 (dLook (nat_lit 4) [] [] (lkFieldAddr (nat_lit 0) g36) p37 k30d3) k30d3)
noncomputable def k30d5 : KD := 
(dIf [] (wantF g34) p36 (dTurn (nat_lit 3) [] [] false (xNil g35) p36 k30d4) k30d4)
def q70 : OpdF := kC (.int .i64 (.ofNat (nat_lit 1500)))
noncomputable def k30d6 : KD := 
(dLook (nat_lit 16) [] [] (lkPick g59 q13 g72) p73 (dEnd [(nat_lit 57), (nat_lit 58), (nat_lit 59), (nat_lit 60), (nat_lit 61), (nat_lit 62), (nat_lit 63), (nat_lit 64), (nat_lit 65), (nat_lit 66), (nat_lit 67), (nat_lit 68), (nat_lit 69), (nat_lit 70), (nat_lit 71), (nat_lit 72), (nat_lit 73)]))
noncomputable def k30d7 : KD := 
(dIf [] (wantF g59) p72 (dLook (nat_lit 15) [] [] (lkBin .geq g71 q70) p72 k30d6) k30d6)
noncomputable def k30d8 : KD := 
(dIf [] (wantF g59) p71 (dLook (nat_lit 14) [] [] (lkBin .add g64 g70) p71 k30d7) k30d7)
noncomputable def k30d9 : KD := 
(dIf [] (wantF g59) p70 (dLook (nat_lit 13) [] [] (lkLen .sl g69) p70 k30d8) k30d8)
noncomputable def k30d10 : KD := 
(dIf [] (wantF g59) p69 (dLook (nat_lit 12) [] [] (lkLoad1 g68) p69 k30d9) k30d9)
noncomputable def k30d11 : KD := 
(dIf [] (wantF g59) p68 (dLook (nat_lit 11) [] [] (lkFieldAddr (nat_lit 0) g67) p68 k30d10) k30d10)
noncomputable def k30d12 : KD := 
(dIf [] (wantF g59) p67 (dLook (nat_lit 10) [] [] (lkFieldAddr (nat_lit 0) g66) p67 k30d11) k30d11)
noncomputable def k30d13 : KD := 
(dIf [] (wantF g59) p66 (dTurn (nat_lit 9) [] [] false (xNil g65) p66 k30d12) k30d12)
noncomputable def k30d14 : KD := 
(dIf [] (wantF g59) p65 (dLook (nat_lit 8) [] [] (lkMove g0) p65 k30d13) k30d13)
noncomputable def k30d15 : KD := 
(dIf [] (wantF g59) p64 (dLook (nat_lit 7) [] [] (lkLen .map g63) p64 k30d14) k30d14)
noncomputable def k30d16 : KD := 
(dIf [] (wantF g59) p63 (dLook (nat_lit 6) [] [] (lkLoad1 g62) p63 k30d15) k30d15)
noncomputable def k30d17 : KD := 
(dIf [] (wantF g59) p62 (dLook (nat_lit 5) [] [] (lkFieldAddr (nat_lit 38) g61) p62 k30d16) k30d16)
noncomputable def k30d18 : KD := 
(dIf [] (wantF g59) p61 (dTurn (nat_lit 4) [] [] false (xNil g60) p61 k30d17) k30d17)
def q71 : List Value := [(.int .i64 (.ofNat (nat_lit 0))), (.int .i64 (.ofNat (nat_lit 0))), (.int .u8 (.ofNat (nat_lit 0))), (.int .u8 (.ofNat (nat_lit 0))), (.int .u8 (.ofNat (nat_lit 0))), (.int .u8 (.ofNat (nat_lit 0))), (.int .u8 (.ofNat (nat_lit 0))), (.int .u8 (.ofNat (nat_lit 0))), (.int .u8 (.ofNat (nat_lit 0))), (.int .u8 (.ofNat (nat_lit 0))), (.int .u8 (.ofNat (nat_lit 0))), (.int .u8 (.ofNat (nat_lit 0))), (.int .u8 (.ofNat (nat_lit 0))), (.int .u8 (.ofNat (nat_lit 0))), (.int .u8 (.ofNat (nat_lit 0))), (.int .u8 (.ofNat (nat_lit 0))), (.int .u8 (.ofNat (nat_lit 0))), (.int .u8 (.ofNat (nat_lit 0))), (.int .u8 (.ofNat (nat_lit 0))), (.int .u8 (.ofNat (nat_lit 0))), (.int .u8 (.ofNat (nat_lit 0))), (.int .u8 (.ofNat (nat_lit 0))), (.int .u8 (.ofNat (nat_lit 0))), (.int .u8 (.ofNat (nat_lit 0))), (.int .u8 (.ofNat (nat_lit 0))), (.int .u8 (.ofNat (nat_lit 0))), (.int .u8 (.ofNat (nat_lit 0))), (.int .u8 (.ofNat (nat_lit 0))), (.int .u8 (.ofNat (nat_lit 0))), (.int .u8 (.ofNat (nat_lit 0))), (.int .u8 (.ofNat (nat_lit 0))), (.int .u8 (.ofNat (nat_lit 0))), (.int .u8 (.ofNat (nat_lit 0))), (.int .u8 (.ofNat (nat_lit 0))), (.slice none (nat_lit 0) (nat_lit 0))]
def q72 : OpdF := kC (.func (.func (nat_lit 100)) ⟨[]⟩ ⟨[]⟩)
noncomputable def k30 : KFun := ⟨[rCellN (nat_lit 4) g4 (nat_lit 32), rTmp (nat_lit 5) g5], (kSeq (oSet (xTurn (tnAlloc q9)) p4 
(oSet (xMove q6) p5 
oEnd)) (kSeq (kSeq (oSet (xMove g0) p12 
(oSet (xCall q26 [g12]) p13 
(oSet (xMove g13) p6 
oEnd))) (kSeq (oSet (xMove g6) p14 
(oSet (xLook (lkEq true .int g14 q6)) p15 
oEnd)) (kCond g15 (kSeq (oSet (xLook (lkBuild q9 [])) p16 
(oSet (xMove g6) p17 
(oDo (xTurn (tnStore (nat_lit 32) g4 g16)) 
(oSet (xMove g17) p5 
oEnd)))) kRet) kSkip))) (kSeq (kSeq (oSet (xMove g1) p18 
(oSet (xLook (lkLen .sl g18)) p19 
(oSet (xLook (lkBin .gtr g19 q68)) p20 
oEnd))) (kCond g20 (kSeq (oSet (xLook (lkBuild q9 [])) p21 
(oDo (xTurn (tnStore (nat_lit 32) g4 g21)) 
(oSet (xMove q69) p5 
oEnd))) kRet) kSkip)) (kSeq (oSet (xMove g1) p22 
(oSet (xCall q30 [g22]) p23 
(oSet (xTurn (tnAlloc q9)) p7 
(oDo (xTurn (tnStore (nat_lit 32) g7 g23)) 
oEnd)))) (kSeq (kSeq (kDraw 
(dLook (nat_lit 0) [] [] (lkMove g0) p25 
(dTurn (nat_lit 1) [] [] false (xNil g25) p26 
(dLook (nat_lit 2) [] [] (lkFieldAddr (nat_lit 38) g26) p27 
(dLook (nat_lit 3) [] [] (lkLoad1 g27) p28 
(dLook (nat_lit 4) [] [] (lkLoadN (nat_lit 32) g7) p29 
(dLook (nat_lit 5) [] [] (lkLookup (.many (nat_lit 32) .u8) (.agg ⟨[(.int .i64 (.ofNat (nat_lit 0))), (.int .i64 (.ofNat (nat_lit 0)))]⟩) true g28 g29) p30 
(dLook (nat_lit 6) [] [] (lkMove g30) p24 
(dLook (nat_lit 7) [] [] (lkExtract (nat_lit 0) g24) p31 
(dLook (nat_lit 8) [] [] (lkExtract (nat_lit 1) g24) p32 
(dTurn (nat_lit 9) [] [] false (xTurn (tnAlloc q40)) p8 
(dTurn (nat_lit 10) [] [] true (xTurn (tnStore (nat_lit 2) g8 g31)) noDst 
(dLook (nat_lit 11) [] [(nat_lit 10)] (lkMove g32) p9 (dEnd [(nat_lit 25), (nat_lit 26), (nat_lit 27), (nat_lit 28), (nat_lit 29), (nat_lit 30), (nat_lit 24), (nat_lit 31), (nat_lit 32), (nat_lit 8), (nat_lit 9)])))))))))))))) (kSeq (kDraw 
(dLook (nat_lit 0) [] [] (lkMove g9) p33 
(dLook (nat_lit 1) [] [] (lkMove g33) p34 
(dIf [] (wantF g34) p35 (dLook (nat_lit 2) [] [] (lkMove g0) p35 k30d5) k30d5)))) (kCond g41 (kSeq (kDraw 
(dLook (nat_lit 0) [] [] (lkMove g0) p42 
(dTurn (nat_lit 1) [] [] false (xNil g42) p43 
(dLook (nat_lit 2) [] [] (lkFieldAddr (nat_lit 0) g43) p44 
(dLook (nat_lit 3) [] [] (lkFieldAddr (nat_lit 1) g44) p45 
(dLook (nat_lit 4) [] [] (lkLoad1 g45) p46 
(dLook (nat_lit 5) [] [] (lkLoadN (nat_lit 32) g7) p47 
(dTurn (nat_lit 6) [] [] true (xTurn (tnDelete (.many (nat_lit 32) .u8) g46 g47)) noDst (dEnd [(nat_lit 42), (nat_lit 43), (nat_lit 44), (nat_lit 45), (nat_lit 46), (nat_lit 47)]))))))))) (kSeq (oSet (xLook (lkLoadN (nat_lit 32) g7)) p48 
(oDo (xTurn (tnStore (nat_lit 32) g4 g48)) 
(oSet (xMove q6) p5 
oEnd))) kRet)) kSkip))) (kSeq (oSet (xMove g0) p50 
(oSet (xMove g1) p51 
(oSet (xLook (lkLen .sl g51)) p52 
(oSet (xCall q33 [g52]) p53 
(oSet (xCall q34 [g50, g53]) p54 
(oSet (xMove g54) p49 
(oSet (xLook (lkExtract (nat_lit 0) g49)) p55 
(oSet (xLook (lkExtract (nat_lit 1) g49)) p56 
(oSet (xMove g55) p10 
(oSet (xMove g56) p11 
oEnd)))))))))) (kSeq (kSeq (kDraw 
(dLook (nat_lit 0) [] [] (lkMove g11) p57 
(dLook (nat_lit 1) [] [] (lkEq true .int g57 q6) p58 
(dLook (nat_lit 2) [] [] (lkMove g58) p59 
(dIf [] (wantF g59) p60 (dLook (nat_lit 3) [] [] (lkMove g0) p60 k30d18) k30d18))))) (kCond g73 (kSeq (oSet (xLook (lkBuild q9 [])) p74 
(oDo (xTurn (tnStore (nat_lit 32) g4 g74)) 
(oSet (xMove q44) p5 
oEnd))) kRet) kSkip)) (kSeq (kDraw 
(dLook (nat_lit 0) [] [] (lkMove g0) p75 
(dLook (nat_lit 1) [] [] (lkMove g0) p76 
(dTurn (nat_lit 2) [] [] false (xNil g76) p77 
(dLook (nat_lit 3) [] [] (lkFieldAddr (nat_lit 0) g77) p78 
(dLook (nat_lit 4) [] [] (lkFieldAddr (nat_lit 0) g78) p79 
(dLook (nat_lit 5) [] [] (lkLoad1 g79) p80 
(dLook (nat_lit 6) [] [] (lkMove g10) p81 
(dLook (nat_lit 7) [] [] (lkMove g1) p82 
(dLook (nat_lit 8) [] [] (lkLen .sl g82) p83 
(dLook (nat_lit 9) [] [] (lkBuild q40 [((nat_lit 0), (nat_lit 1), g81), ((nat_lit 1), (nat_lit 1), g83)]) p84 
(dLook (nat_lit 10) [] [] (lkLoadN (nat_lit 32) g7) p85 
(dLook (nat_lit 11) [] [] (lkMove g1) p86 
(dTurn (nat_lit 12) [(nat_lit 5), (nat_lit 8), (nat_lit 10)] [] true (xCall q72 [g86]) p87 
(dLook (nat_lit 13) [] [(nat_lit 12)] (lkBuild q71 [((nat_lit 0), (nat_lit 2), g84), ((nat_lit 2), (nat_lit 32), g85), ((nat_lit 34), (nat_lit 1), g87)]) p88 
(dTurn (nat_lit 14) [] [(nat_lit 12)] false (xTurn (tnBuildSlice q71 [((nat_lit 0), (nat_lit 35), g88)] (nat_lit 1))) p89 
(dTurn (nat_lit 15) [] [(nat_lit 12)] true (xTurn (tnAppend (nat_lit 35) g80 g89)) p90 
(dTurn (nat_lit 16) [] [(nat_lit 12), (nat_lit 15)] false (xNil g75) p91 
(dLook (nat_lit 17) [] [(nat_lit 12), (nat_lit 15)] (lkFieldAddr (nat_lit 0) g91) p92 
(dLook (nat_lit 18) [] [(nat_lit 12), (nat_lit 15)] (lkFieldAddr (nat_lit 0) g92) p93 
(dTurn (nat_lit 19) [] [(nat_lit 12), (nat_lit 15)] true (xTurn (tnStore (nat_lit 1) g93 g90)) noDst (dEnd [(nat_lit 75), (nat_lit 76), (nat_lit 77), (nat_lit 78), (nat_lit 79), (nat_lit 80), (nat_lit 81), (nat_lit 82), (nat_lit 83), (nat_lit 84), (nat_lit 85), (nat_lit 86), (nat_lit 87), (nat_lit 88), (nat_lit 89), (nat_lit 90), (nat_lit 91), (nat_lit 92), (nat_lit 93)])))))))))))))))))))))) (kSeq (oSet (xLook (lkLoadN (nat_lit 32) g7)) p94 
(oDo (xTurn (tnStore (nat_lit 32) g4 g94)) 
(oSet (xMove q6) p5 
oEnd))) kRet)))))))))⟩
noncomputable def k31 : KFun := ⟨[rTmp (nat_lit 2) g2], (kSeq (oSet (xMove q6) p2 
oEnd) (kSeq (kSeq (oSet (xMove g0) p4 
(oSet (xCall q26 [g4]) p5 
(oSet (xMove g5) p3 
oEnd))) (kSeq (oSet (xMove g3) p6 
(oSet (xLook (lkEq true .int g6 q6)) p7 
oEnd)) (kCond g7 (kSeq (oSet (xMove g3) p8 
(oSet (xMove g8) p2 
oEnd)) kRet) kSkip))) (kSeq (oSet (xMove g0) p9 
(oSet (xCall q39 []) p10 
(oSet (xNil g9) p11 
(oSet (xLook (lkFieldAddr (nat_lit 0) g11)) p12 
(oDo (xTurn (tnStore (nat_lit 2) g12 g10)) 
oEnd))))) (kSeq (oSet (xMove q6) p2 
oEnd) kRet))))⟩
def q73 : OpdF := kC (.func (.func (nat_lit 102)) ⟨[]⟩ ⟨[]⟩)
def q74 : OpdF := kC (.func (.func (nat_lit 101)) ⟨[]⟩ ⟨[]⟩)
def q75 : OpdF := kC (.func (.func (nat_lit 103)) ⟨[]⟩ ⟨[]⟩)
noncomputable def k32 : KFun := ⟨[rTmp (nat_lit 2) g2], (kSeq (oSet (xMove q12) p2 
oEnd) (kSeq (kSeq (oSet (xMove g0) p3 
(oSet (xCall q26 [g3]) p4 
(oSet (xLook (lkEq true .int g4 q6)) p5 
oEnd))) (kCond g5 (kSeq (oSet (xMove q12) p2 
oEnd) kRet) kSkip)) (kSeq (oSet (xMove g0) p6 
(oSet (xCall q38 [g6]) p7 
(oSet (xCall q73 [g7]) p8 
(oSet (xCall q74 [g8, q75]) p9 
(oSet (xMove g9) p2 
oEnd))))) kRet)))⟩
def q76 : OpdF := kC (.func (.func (nat_lit 104)) ⟨[]⟩ ⟨[]⟩)
noncomputable def k33 : KFun := ⟨[rTmp (nat_lit 2) g2], (kSeq (oSet (xMove q0) p2 
oEnd) (kSeq (oSet (xMove g0) p3 
(oSet (xCall q76 [g3]) p4 
(oSet (xLook (lkUn .not g4)) p5 
(oSet (xMove g5) p6 
(oSetIf (wantT g6) (xMove g0) p7 
(oSetIf (wantT g6) (xNil g7) p8 
(oSetIf (wantT g6) (xLook (lkFieldAddr (nat_lit 39) g8)) p9 
(oSetIf (wantT g6) (xLook (lkLoad1 g9)) p10 
(oSet (xLook (lkPick g6 g10 q0)) p11 
(oSet (xMove g11) p2 
oEnd)))))))))) kRet))⟩
def q77 : OpdF := kC (.int .i64 (.ofNat (nat_lit 5)))
def q78 : List Value := [(.int .i64 (.ofNat (nat_lit 0))), (.int .i64 (.ofNat (nat_lit 0))), (.bool false)]
def q79 : OpdF := kC (.int .i64 (.negSucc (nat_lit 0)))
noncomputable def k61 : KFun := ⟨[rTmp (nat_lit 2) g2, rTmp (nat_lit 3) g3], (kSeq (oSet (xMove q3) p2 
(oSet (xMove q6) p3 
oEnd)) (kSeq (kSeq (oSet (xMove g0) p4 
(oSet (xLook (lkBin .lss g4 q6)) p5 
(oSet (xMove g5) p6 
(oSetIf (wantF g6) (xMove g0) p7 
(oSetIf (wantF g6) (xLook (lkBin .gtr g7 q68)) p8 
(oSet (xLook (lkPick g6 q13 g8)) p9 
oEnd)))))) (kCond g9 (kSeq (oSet (xMove q3) p2 
(oSet (xMove q77) p3 
oEnd)) kRet) kSkip)) (kSeq (oSet (xLook (lkBuild q78 [((nat_lit 1), (nat_lit 1), q79)])) p10 
(oSet (xMove g0) p11 
(oSet (xTurn (tnMkMap (.one (.int .i64)))) p12 
(oSet (xLook (lkBuild q24 [((nat_lit 0), (nat_lit 3), g10), ((nat_lit 3), (nat_lit 1), q13), ((nat_lit 4), (nat_lit 1), g11), ((nat_lit 5), (nat_lit 1), g12)])) p13 
(oSet (xTurn (tnBox g13)) p14 
(oSet (xMove g14) p2 
(oSet (xMove q6) p3 
oEnd))))))) kRet)))⟩
def q80 : OpdF := kC (.func (.func (nat_lit 134)) ⟨[]⟩ ⟨[]⟩)
def q81 : OpdF := kC (.func (.func (nat_lit 133)) ⟨[]⟩ ⟨[]⟩)
noncomputable def k70 : KFun := ⟨[], (kSeq (oSet (xMove g0) p5 
(oSet (xLook (lkLen .sl g5)) p6 
(oSet (xMove g6) p4 
oEnd))) (oSet (xMove g0) p7 
(oSet (xMove g4) p8 
(oSet (xMove g4) p9 
(oSet (xLook (lkIntTo .u64 g9)) p10 
(oSet (xCall q80 [g10]) p11 
(oSet (xMove g1) p12 
(oSet (xCall q81 [g7, q6, g8, g11, g12]) p13 
oEnd))))))))⟩
def q82 : OpdF := kC (.func (.func (nat_lit 135)) ⟨[]⟩ ⟨[]⟩)
noncomputable def k72 : KFun := ⟨[rTmp (nat_lit 4) g4], (kSeq (oSet (xMove q6) p4 
oEnd) (kSeq (oSet (xMove g0) p5 
(oSet (xMove g1) p6 
(oSet (xCall q82 [g5, g6]) p7 
(oSet (xMove g7) p4 
oEnd)))) kRet))⟩
noncomputable def k76 : KFun := ⟨[rTmp (nat_lit 2) g2], (kSeq (oSet (xMove q6) p2 
oEnd) (kSeq (kBlock (nat_lit 0) (kSeq (oSet (xMove g0) p4 
(oSet (xCall q76 [g4]) p5 
(oSet (xMove g5) p3 
oEnd))) (kCond g3 (kSeq (oSet (xMove q14) p2 
oEnd) kRet) (kSeq (oSet (xMove g0) p7 
(oSet (xNil g7) p8 
(oSet (xLook (lkFieldAddr (nat_lit 39) g8)) p9 
(oSet (xLook (lkLoad1 g9)) p10 
(oSet (xMove g10) p6 
oEnd))))) (kCond g6 (kSeq (oSet (xMove q37) p2 
oEnd) kRet) kSkip))))) (kSeq (oSet (xMove q6) p2 
oEnd) kRet)))⟩
def q83 : OpdF := kC (.func (.func (nat_lit 138)) ⟨[]⟩ ⟨[]⟩)
def q84 : List Value := [(.bool false), (.int .u32 (.ofNat (nat_lit 0))), (.int .u32 (.ofNat (nat_lit 0))), (.int .u32 (.ofNat (nat_lit 0))), (.int .u32 (.ofNat (nat_lit 0))), (.int .u32 (.ofNat (nat_lit 0))), (.int .u32 (.ofNat (nat_lit 0))), (.int .u32 (.ofNat (nat_lit 0))), (.int .u32 (.ofNat (nat_lit 0))), (.int .u8 (.ofNat (nat_lit 0))), (.int .u8 (.ofNat (nat_lit 0))), (.int .u8 (.ofNat (nat_lit 0))), (.int .u8 (.ofNat (nat_lit 0))), (.int .u8 (.ofNat (nat_lit 0))), (.int .u8 (.ofNat (nat_lit 0))), (.int .u8 (.ofNat (nat_lit 0))), (.int .u8 (.ofNat (nat_lit 0))), (.int .u8 (.ofNat (nat_lit 0))), (.int .u8 (.ofNat (nat_lit 0))), (.int .u8 (.ofNat (nat_lit 0))), (.int .u8 (.ofNat (nat_lit 0))), (.int .u8 (.ofNat (nat_lit 0))), (.int .u8 (.ofNat (nat_lit 0))), (.int .u8 (.ofNat (nat_lit 0))), (.int .u8 (.ofNat (nat_lit 0))), (.int .u8 (.ofNat (nat_lit 0))), (.int .u8 (.ofNat (nat_lit 0))), (.int .u8 (.ofNat (nat_lit 0))), (.int .u8 (.ofNat (nat_lit 0))), (.int .u8 (.ofNat (nat_lit 0))), (.int .u8 (.ofNat (nat_lit 0))), (.int .u8 (.ofNat (nat_lit 0))), (.int .u8 (.ofNat (nat_lit 0))), (.int .u8 (.ofNat (nat_lit 0))), (.int .u8 (.ofNat (nat_lit 0))), (.int .u8 (.ofNat (nat_lit 0))), (.int .u8 (.ofNat (nat_lit 0))), (.int .u8 (.ofNat (nat_lit 0))), (.int .u8 (.ofNat (nat_lit 0))), (.int .u8 (.ofNat (nat_lit 0))), (.int .u8 (.ofNat (nat_lit 0))), (.int .u8 (.ofNat (nat_lit 0))), (.int .u8 (.ofNat (nat_lit 0))), (.int .u8 (.ofNat (nat_lit 0))), (.int .u8 (.ofNat (nat_lit 0))), (.int .u8 (.ofNat (nat_lit 0))), (.int .u8 (.ofNat (nat_lit 0))), (.int .u8 (.ofNat (nat_lit 0))), (.int .u8 (.ofNat (nat_lit 0))), (.int .u8 (.ofNat (nat_lit 0))), (.int .u8 (.ofNat (nat_lit 0))), (.int .u8 (.ofNat (nat_lit 0))), (.int .u8 (.ofNat (nat_lit 0))), (.int .u8 (.ofNat (nat_lit 0))), (.int .u8 (.ofNat (nat_lit 0))), (.int .u8 (.ofNat (nat_lit 0))), (.int .u8 (.ofNat (nat_lit 0))), (.int .u8 (.ofNat (nat_lit 0))), (.int .u8 (.ofNat (nat_lit 0))), (.int .u8 (.ofNat (nat_lit 0))), (.int .u8 (.ofNat (nat_lit 0))), (.int .u8 (.ofNat (nat_lit 0))), (.int .u8 (.ofNat (nat_lit 0))), (.int .u8 (.ofNat (nat_lit 0))), (.int .u8 (.ofNat (nat_lit 0))), (.int .u8 (.ofNat (nat_lit 0))), (.int .u8 (.ofNat (nat_lit 0))), (.int .u8 (.ofNat (nat_lit 0))), (.int .u8 (.ofNat (nat_lit 0))), (.int .u8 (.ofNat (nat_lit 0))), (.int .u8 (.ofNat (nat_lit 0))), (.int .u8 (.ofNat (nat_lit 0))), (.int .u8 (.ofNat (nat_lit 0))), (.int .i64 (.ofNat (nat_lit 0)))]
noncomputable def k77 : KFun := ⟨[rTmp (nat_lit 0) g0], (kSeq (oSet (xMove q3) p0 
oEnd) (kSeq (oSet (xCall q83 []) p1 
(oSet (xLook (lkBuild q84 [((nat_lit 0), (nat_lit 1), q13), ((nat_lit 1), (nat_lit 8), g1)])) p2 
(oSet (xTurn (tnBox g2)) p3 
(oSet (xMove g3) p0 
oEnd)))) kRet))⟩
def q85 : OpdF := kC (.func (.func (nat_lit 139)) ⟨[]⟩ ⟨[]⟩)
def q86 : OpdF := kC (.int .i64 (.ofNat (nat_lit 64)))
def q87 : OpdF := kC (.func (.func (nat_lit 140)) ⟨[]⟩ ⟨[]⟩)
noncomputable def k78 : KFun := ⟨[], (kSeq (kSeq (oSet (xMove g0) p5 
(oSet (xCall q85 [g5]) p6 
oEnd)) (kCond g6 kRet kSkip)) (kBlock (nat_lit 0) (kLoop (kSeq (kSeq (oSet (xMove g1) p7 
(oSet (xLook (lkLen .sl g7)) p8 
(oSet (xLook (lkBin .gtr g8 q6)) p9 
oEnd))) (kCond g9 kSkip (kExit (nat_lit 0)))) (kBlock (nat_lit 1) (kSeq (kDraw 
(dLook (nat_lit 0) [] [] (lkMove g0) p10 
(dTurn (nat_lit 1) [] [] false (xNil g10) p11 
(dLook (nat_lit 2) [] [] (lkFieldAddr (nat_lit 9) g11) p12 
(dLook (nat_lit 3) [] [] (lkMove g0) p13 
(dTurn (nat_lit 4) [] [] false (xNil g13) p14 
(dLook (nat_lit 5) [] [] (lkFieldAddr (nat_lit 73) g14) p15 
(dLook (nat_lit 6) [] [] (lkLoad1 g15) p16 
(dLook (nat_lit 7) [] [] (lkBin .rem g16 q86) p17 
(dLook (nat_lit 8) [] [] (lkSliceArr (nat_lit 64) (nat_lit 1) g12 (some g17) none none) p18 
(dLook (nat_lit 9) [] [] (lkMove g1) p19 
(dTurn (nat_lit 10) [] [] true (xTurn (tnCopy (nat_lit 1) g18 g19)) p20 
(dLook (nat_lit 11) [] [(nat_lit 10)] (lkMove g20) p4 (dEnd [(nat_lit 10), (nat_lit 11), (nat_lit 12), (nat_lit 13), (nat_lit 14), (nat_lit 15), (nat_lit 16), (nat_lit 17), (nat_lit 18), (nat_lit 19), (nat_lit 20), (nat_lit 4)])))))))))))))) (kSeq (oSet (xMove g0) p21 
(oSet (xNil g21) p22 
(oSet (xLook (lkFieldAddr (nat_lit 73) g22)) p23 
(oSet (xLook (lkLoad1 g23)) p24 
(oSet (xMove g4) p25 
(oSet (xLook (lkBin .add g24 g25)) p26 
(oSet (xNil g21) p27 
(oSet (xLook (lkFieldAddr (nat_lit 73) g27)) p28 
(oDo (xTurn (tnStore (nat_lit 1) g28 g26)) 
oEnd))))))))) (kSeq (oSet (xMove g1) p29 
(oSet (xMove g4) p30 
(oSet (xLook (lkSliceSl (nat_lit 1) g29 (some g30) none none)) p31 
(oSet (xMove g31) p1 
oEnd)))) (kSeq (oSet (xMove g0) p32 
(oSet (xNil g32) p33 
(oSet (xLook (lkFieldAddr (nat_lit 73) g33)) p34 
(oSet (xLook (lkLoad1 g34)) p35 
(oSet (xLook (lkBin .rem g35 q86)) p36 
(oSet (xLook (lkEq false .int g36 q6)) p37 
oEnd)))))) (kCond g37 (kDraw 
(dLook (nat_lit 0) [] [] (lkMove g0) p38 
(dLook (nat_lit 1) [] [] (lkMove g0) p39 
(dTurn (nat_lit 2) [] [] false (xNil g39) p40 
(dLook (nat_lit 3) [] [] (lkFieldAddr (nat_lit 1) g40) p41 
(dLook (nat_lit 4) [] [] (lkLoadN (nat_lit 8) g41) p42 
(dLook (nat_lit 5) [] [] (lkMove g0) p43 
(dTurn (nat_lit 6) [] [] false (xNil g43) p44 
(dLook (nat_lit 7) [] [] (lkFieldAddr (nat_lit 9) g44) p45 
(dLook (nat_lit 8) [] [] (lkSliceArr (nat_lit 64) (nat_lit 1) g45 none none none) p46 
(dTurn (nat_lit 9) [] [] true (xCall q87 [g42, g46]) p47 
(dTurn (nat_lit 10) [] [(nat_lit 9)] false (xNil g38) p48 
(dLook (nat_lit 11) [] [(nat_lit 9)] (lkFieldAddr (nat_lit 1) g48) p49 
(dTurn (nat_lit 12) [] [(nat_lit 9)] true (xTurn (tnStore (nat_lit 8) g49 g47)) noDst (dEnd [(nat_lit 38), (nat_lit 39), (nat_lit 40), (nat_lit 41), (nat_lit 42), (nat_lit 43), (nat_lit 44), (nat_lit 45), (nat_lit 46), (nat_lit 47), (nat_lit 48), (nat_lit 49)]))))))))))))))) kSkip))))))))))⟩
def q88 : List Value := [(.int .u8 (.ofNat (nat_lit 0))), (.int .u8 (.ofNat (nat_lit 0))), (.int .u8 (.ofNat (nat_lit 0))), (.int .u8 (.ofNat (nat_lit 0))), (.int .u8 (.ofNat (nat_lit 0))), (.int .u8 (.ofNat (nat_lit 0))), (.int .u8 (.ofNat (nat_lit 0))), (.int .u8 (.ofNat (nat_lit 0))), (.int .u8 (.ofNat (nat_lit 0))), (.int .u8 (.ofNat (nat_lit 0))), (.int .u8 (.ofNat (nat_lit 0))), (.int .u8 (.ofNat (nat_lit 0))), (.int .u8 (.ofNat (nat_lit 0))), (.int .u8 (.ofNat (nat_lit 0))), (.int .u8 (.ofNat (nat_lit 0))), (.int .u8 (.ofNat (nat_lit 0))), (.int .u8 (.ofNat (nat_lit 0))), (.int .u8 (.ofNat (nat_lit 0))), (.int .u8 (.ofNat (nat_lit 0))), (.int .u8 (.ofNat (nat_lit 0))), (.int .u8 (.ofNat (nat_lit 0))), (.int .u8 (.ofNat (nat_lit 0))), (.int .u8 (.ofNat (nat_lit 0))), (.int .u8 (.ofNat (nat_lit 0))), (.int .u8 (.ofNat (nat_lit 0))), (.int .u8 (.ofNat (nat_lit 0))), (.int .u8 (.ofNat (nat_lit 0))), (.int .u8 (.ofNat (nat_lit 0))), (.int .u8 (.ofNat (nat_lit 0))), (.int .u8 (.ofNat (nat_lit 0))), (.int .u8 (.ofNat (nat_lit 0))), (.int .u8 (.ofNat (nat_lit 0))), (.int .u8 (.ofNat (nat_lit 0))), (.int .u8 (.ofNat (nat_lit 0))), (.int .u8 (.ofNat (nat_lit 0))), (.int .u8 (.ofNat (nat_lit 0))), (.int .u8 (.ofNat (nat_lit 0))), (.int .u8 (.ofNat (nat_lit 0))), (.int .u8 (.ofNat (nat_lit 0))), (.int .u8 (.ofNat (nat_lit 0))), (.int .u8 (.ofNat (nat_lit 0))), (.int .u8 (.ofNat (nat_lit 0))), (.int .u8 (.ofNat (nat_lit 0))), (.int .u8 (.ofNat (nat_lit 0))), (.int .u8 (.ofNat (nat_lit 0))), (.int .u8 (.ofNat (nat_lit 0))), (.int .u8 (.ofNat (nat_lit 0))), (.int .u8 (.ofNat (nat_lit 0))), (.int .u8 (.ofNat (nat_lit 0))), (.int .u8 (.ofNat (nat_lit 0))), (.int .u8 (.ofNat (nat_lit 0))), (.int .u8 (.ofNat (nat_lit 0))), (.int .u8 (.ofNat (nat_lit 0))), (.int .u8 (.ofNat (nat_lit 0))), (.int .u8 (.ofNat (nat_lit 0))), (.int .u8 (.ofNat (nat_lit 0))), (.int .u8 (.ofNat (nat_lit 0))), (.int .u8 (.ofNat (nat_lit 0))), (.int .u8 (.ofNat (nat_lit 0))), (.int .u8 (.ofNat (nat_lit 0))), (.int .u8 (.ofNat (nat_lit 0))), (.int .u8 (.ofNat (nat_lit 0))), (.int .u8 (.ofNat (nat_lit 0))), (.int .u8 (.ofNat (nat_lit 0))), (.int .u8 (.ofNat (nat_lit 0))), (.int .u8 (.ofNat (nat_lit 0))), (.int .u8 (.ofNat (nat_lit 0))), (.int .u8 (.ofNat (nat_lit 0))), (.int .u8 (.ofNat (nat_lit 0))), (.int .u8 (.ofNat (nat_lit 0))), (.int .u8 (.ofNat (nat_lit 0))), (.int .u8 (.ofNat (nat_lit 0)))]
def q89 : OpdF := kC (.int .u8 (.ofNat (nat_lit 128)))
def q90 : OpdF := kC (.int .i64 (.ofNat (nat_lit 119)))
def q91 : OpdF := kC (.int .u64 (.ofNat (nat_lit 8)))
def q92 : OpdF := kC (.int .i64 (.ofNat (nat_lit 56)))
def q93 : OpdF := kC (.int .i64 (.ofNat (nat_lit 24)))
noncomputable def k79 : KFun := ⟨[rCellN (nat_lit 2) g2 (nat_lit 32)], (kSeq (oSet (xTurn (tnAlloc q9)) p2 
oEnd) (kSeq (kSeq (oSet (xMove g0) p12 
(oSet (xCall q85 [g12]) p13 
oEnd)) (kCond g13 (kSeq (oSet (xLook (lkBuild q9 [])) p14 
(oDo (xTurn (tnStore (nat_lit 32) g2 g14)) 
oEnd)) kRet) kSkip)) (kSeq (oSet (xMove g0) p15 
(oSet (xNil g15) p16 
(oSet (xLook (lkLoadN (nat_lit 74) g16)) p17 
(oSet (xTurn (tnAlloc q84)) p3 
(oDo (xTurn (tnStore (nat_lit 74) g3 g17)) 
oEnd))))) (kSeq (oSet (xLook (lkBuild q88 [((nat_lit 0), (nat_lit 1), q89)])) p18 
(oSet (xTurn (tnAlloc q88)) p4 
(oDo (xTurn (tnStore (nat_lit 72) g4 g18)) 
oEnd))) (kSeq (oSet (xMove g0) p19 
(oSet (xNil g19) p20 
(oSet (xLook (lkFieldAddr (nat_lit 73) g20)) p21 
(oSet (xLook (lkLoad1 g21)) p22 
(oSet (xLook (lkBin .rem g22 q86)) p23 
(oSet (xLook (lkBin .sub q90 g23)) p24 
(oSet (xLook (lkBin .rem g24 q86)) p25 
(oSet (xLook (lkBin .add q14 g25)) p26 
(oSet (xMove g26) p5 
oEnd))))))))) (kSeq (oSet (xMove g0) p27 
(oSet (xNil g27) p28 
(oSet (xLook (lkFieldAddr (nat_lit 73) g28)) p29 
(oSet (xLook (lkLoad1 g29)) p30 
(oSet (xLook (lkIntTo .u64 g30)) p31 
(oSet (xLook (lkBin .mul g31 q91)) p32 
(oSet (xMove g32) p6 
oEnd))))))) (kSeq (kSeq (oSet (xMove q6) p33 
oEnd) (kBlock (nat_lit 0) (kLoop (kSeq (oSet (xLook (lkBin .lss g33 q44)) p34 
oEnd) (kSeq (kCond g34 kSkip (kExit (nat_lit 0))) (kSeq (kBlock (nat_lit 1) (kSeq (oSet (xMove g33) p35 
(oSet (xMove g35) p7 
oEnd)) (oSet (xMove g5) p36 
(oSet (xMove g7) p37 
(oSet (xLook (lkBin .add g36 g37)) p38 
(oSet (xMove g6) p39 
(oSet (xMove g7) p40 
(oSet (xLook (lkBin .mul q44 g40)) p41 
(oSet (xLook (lkBin .sub q92 g41)) p42 
(oSet (xLook (lkBin .shr g39 g42)) p43 
(oSet (xLook (lkIntTo .u8 g43)) p44 
(oSet (xLook (lkIxArr (nat_lit 72) (nat_lit 1) g4 g38)) p45 
(oDo (xTurn (tnStore (nat_lit 1) g45 g44)) 
oEnd))))))))))))) (oSet (xLook (lkBin .add g33 q14)) p46 
(oSet (xMove g46) p33 
oEnd)))))))) (kSeq (oSet (xMove g5) p47 
(oSet (xLook (lkBin .add g47 q44)) p48 
(oSet (xLook (lkSliceArr (nat_lit 72) (nat_lit 1) g4 none (some g48) none)) p49 
(oSet (xCall q28 [g3, g49]) p50 
oEnd)))) (kSeq (oSet (xTurn (tnAlloc q9)) p8 
oEnd) (kSeq (kSeq (oSet (xLook (lkFieldAddr (nat_lit 1) g3)) p51 
(oSet (xLook (lkLoadN (nat_lit 8) g51)) p52 
(oSet (xMove q6) p53 
oEnd))) (kBlock (nat_lit 2) (kLoop (kSeq (oSet (xLook (lkBin .lss g53 q44)) p54 
oEnd) (kSeq (kCond g54 kSkip (kExit (nat_lit 2))) (kSeq (kBlock (nat_lit 3) (kSeq (oSet (xMove g53) p55 
(oSet (xLook (lkIxVal1 (nat_lit 8) g52 g53)) p56 
(oSet (xMove g55) p9 
(oSet (xMove g56) p10 
oEnd)))) (kSeq (oSet (xMove q6) p57 
oEnd) (kBlock (nat_lit 4) (kLoop (kSeq (oSet (xLook (lkBin .lss g57 q43)) p58 
oEnd) (kSeq (kCond g58 kSkip (kExit (nat_lit 4))) (kSeq (kBlock (nat_lit 5) (kSeq (oSet (xMove g57) p59 
(oSet (xMove g59) p11 
oEnd)) (oSet (xMove g9) p60 
(oSet (xLook (lkBin .mul q43 g60)) p61 
(oSet (xMove g11) p62 
(oSet (xLook (lkBin .add g61 g62)) p63 
(oSet (xMove g10) p64 
(oSet (xMove g11) p65 
(oSet (xLook (lkBin .mul q44 g65)) p66 
(oSet (xLook (lkBin .sub q93 g66)) p67 
(oSet (xLook (lkBin .shr g64 g67)) p68 
(oSet (xLook (lkIntTo .u8 g68)) p69 
(oSet (xLook (lkIxArr (nat_lit 32) (nat_lit 1) g8 g63)) p70 
(oDo (xTurn (tnStore (nat_lit 1) g70 g69)) 
oEnd)))))))))))))) (oSet (xLook (lkBin .add g57 q14)) p71 
(oSet (xMove g71) p57 
oEnd)))))))))) (oSet (xLook (lkBin .add g53 q14)) p72 
(oSet (xMove g72) p53 
oEnd)))))))) (kSeq (oSet (xLook (lkLoadN (nat_lit 32) g8)) p73 
(oDo (xTurn (tnStore (nat_lit 32) g2 g73)) 
oEnd)) kRet)))))))))))⟩
def q94 : OpdF := kC (.func (.func (nat_lit 141)) ⟨[]⟩ ⟨[]⟩)
def q95 : OpdF := kC (.func (.func (nat_lit 142)) ⟨[]⟩ ⟨[]⟩)
def q96 : OpdF := kC (.func (.func (nat_lit 143)) ⟨[]⟩ ⟨[]⟩)
def q97 : OpdF := kC (.func (.func (nat_lit 144)) ⟨[]⟩ ⟨[]⟩)
noncomputable def k80 : KFun := ⟨[rTmp (nat_lit 2) g2], (kSeq (oSet (xMove q12) p2 
oEnd) (kSeq (oSet (xMove g0) p9 
(oSet (xCall q38 [g9]) p10 
(oSet (xMove g10) p3 
oEnd))) (kSeq (oSet (xCall q94 []) p11 
(oSet (xMove g11) p4 
oEnd)) (kSeq (oSet (xMove g4) p12 
(oSet (xMove g3) p13 
(oSet (xLook (lkLen .map g13)) p14 
(oSet (xCall q95 [g12, g14]) p15 
oEnd)))) (kSeq (kSeq (oSet (xMove g0) p16 
(oSet (xCall q19 [g16]) p17 
(oSet (xLook (lkLen .sl g17)) p18 
(oSet (xMove q6) p19 
oEnd)))) (kBlock (nat_lit 0) (kLoop (kSeq (oSet (xLook (lkBin .lss g19 g18)) p20 
oEnd) (kSeq (kCond g20 kSkip (kExit (nat_lit 0))) (kSeq (kBlock (nat_lit 1) (kSeq (oSet (xLook (lkIxSl (nat_lit 32) g17 g19)) p21 
(oSet (xLook (lkLoadN (nat_lit 32) g21)) p22 
(oSet (xTurn (tnAlloc q9)) p6 
(oDo (xTurn (tnStore (nat_lit 32) g6 g22)) 
oEnd)))) (kSeq (oSet (xMove g4) p23 
(oSet (xLook (lkLoadN (nat_lit 32) g6)) p24 
(oSet (xCall q96 [g23, g24]) p25 
oEnd))) (kSeq (oSet (xMove g4) p26 
(oSet (xMove g3) p27 
(oSet (xLook (lkLoadN (nat_lit 32) g6)) p28 
(oSet (xLook (lkLookup (.many (nat_lit 32) .u8) (.agg ⟨[(.int .i64 (.ofNat (nat_lit 0))), (.int .i64 (.ofNat (nat_lit 0)))]⟩) false g27 g28)) p29 
(oSet (xLook (lkField1 (nat_lit 0) g29)) p30 
(oSet (xCall q95 [g26, g30]) p31 
oEnd)))))) (oSet (xMove g4) p32 
(oSet (xMove g3) p33 
(oSet (xLook (lkLoadN (nat_lit 32) g6)) p34 
(oSet (xLook (lkLookup (.many (nat_lit 32) .u8) (.agg ⟨[(.int .i64 (.ofNat (nat_lit 0))), (.int .i64 (.ofNat (nat_lit 0)))]⟩) false g33 g34)) p35 
(oSet (xLook (lkField1 (nat_lit 1) g35)) p36 
(oSet (xCall q95 [g32, g36]) p37 
oEnd)))))))))) (oSet (xLook (lkBin .add g19 q14)) p38 
(oSet (xMove g38) p19 
oEnd)))))))) (kSeq (oSet (xMove g4) p40 
(oSet (xCall q97 [g40]) p41 
(oSet (xMove g41) p39 
(oSet (xLook (lkExtract (nat_lit 0) g39)) p42 
(oSet (xLook (lkExtract (nat_lit 1) g39)) p43 
(oSet (xMove g42) p7 
(oSet (xMove g43) p8 
oEnd))))))) (kSeq (oSet (xMove g7) p44 
(oSet (xMove g44) p2 
oEnd)) kRet)))))))⟩
def q98 : OpdF := kC (.func (.func (nat_lit 145)) ⟨[]⟩ ⟨[]⟩)
noncomputable def k81 : KFun := ⟨[rTmp (nat_lit 4) g4, rTmp (nat_lit 5) g5], (kSeq (oSet (xMove q6) p4 
(oSet (xMove q6) p5 
oEnd)) (kSeq (oSet (xMove g0) p10 
(oSet (xCall q56 [g10]) p11 
(oSet (xMove g1) p12 
(oSet (xCall q98 [g11, g12]) p13 
(oSet (xMove g13) p9 
(oSet (xLook (lkExtract (nat_lit 0) g9)) p14 
(oSet (xLook (lkExtract (nat_lit 1) g9)) p15 
(oSet (xLook (lkExtract (nat_lit 2) g9)) p16 
(oSet (xMove g14) p6 
(oSet (xMove g15) p7 
(oSet (xMove g16) p8 
oEnd))))))))))) (kSeq (kSeq (oSet (xMove g8) p17 
(oSet (xLook (lkEq true .int g17 q6)) p18 
oEnd)) (kCond g18 (kSeq (oSet (xMove q6) p4 
(oSet (xMove q44) p5 
oEnd)) kRet) kSkip)) (kSeq (oSet (xMove g6) p19 
(oSet (xMove g19) p4 
(oSet (xMove q6) p5 
oEnd))) kRet))))⟩
def q99 : OpdF := kC (.int .i64 (.ofNat (nat_lit 37)))
noncomputable def k82 : KFun := ⟨[rTmp (nat_lit 2) g2], (kSeq (oSet (xMove q6) p2 
oEnd) (kSeq (kSeq (oSet (xMove g0) p3 
(oSet (xLook (lkBin .lss g3 q6)) p4 
(oSet (xMove g4) p5 
(oSetIf (wantF g5) (xMove g0) p6 
(oSetIf (wantF g5) (xLook (lkBin .gtr g6 q68)) p7 
(oSet (xLook (lkPick g5 q13 g7)) p8 
oEnd)))))) (kCond g8 (kSeq (oSet (xMove q6) p2 
oEnd) kRet) kSkip)) (kSeq (oSet (xMove g0) p9 
(oSet (xLook (lkBin .add q99 g9)) p10 
(oSet (xLook (lkBin .add g10 q86)) p11 
(oSet (xLook (lkBin .sub g11 q14)) p12 
(oSet (xLook (lkBin .quo g12 q86)) p13 
(oSet (xMove g13) p2 
oEnd)))))) kRet)))⟩
def q100 : OpdF := kC (.func (.func (nat_lit 146)) ⟨[]⟩ ⟨[]⟩)
def q101 : List Value := [(.slice none (nat_lit 0) (nat_lit 0))]
def q102 : OpdF := kC (.func (.func (nat_lit 147)) ⟨[]⟩ ⟨[]⟩)
def q103 : OpdF := kC (.func (.func (nat_lit 148)) ⟨[]⟩ ⟨[]⟩)
def q104 : OpdF := kC (.func (.func (nat_lit 149)) ⟨[]⟩ ⟨[]⟩)
noncomputable def k83 : KFun := ⟨[rTmp (nat_lit 6) g6], (kSeq (oSet (xTurn (tnBox g1)) p4 
(oSet (xMove q6) p6 
oEnd)) (kSeq (kSeq (oSet (xMove g0) p13 
(oSet (xNil g13) p14 
(oSet (xLook (lkFieldAddr (nat_lit 0) g14)) p15 
(oSet (xLook (lkFieldAddr (nat_lit 0) g15)) p16 
(oSet (xLook (lkLoad1 g16)) p17 
(oSet (xLook (lkLen .sl g17)) p18 
(oSet (xMove q6) p19 
oEnd))))))) (kBlock (nat_lit 0) (kLoop (kSeq (oSet (xLook (lkBin .lss g19 g18)) p20 
oEnd) (kSeq (kCond g20 kSkip (kExit (nat_lit 0))) (kSeq (kBlock (nat_lit 1) (kSeq (oSet (xLook (lkIxSl (nat_lit 35) g17 g19)) p21 
(oSet (xLook (lkLoadN (nat_lit 35) g21)) p22 
(oSet (xTurn (tnAlloc q71)) p8 
(oDo (xTurn (tnStore (nat_lit 35) g8 g22)) 
oEnd)))) (kSeq (oSet (xLook (lkFieldAddr (nat_lit 34) g8)) p24 
(oSet (xLook (lkLoad1 g24)) p25 
(oSet (xCall q100 [q14, g25]) p26 
(oSet (xMove g26) p23 
(oSet (xLook (lkExtract (nat_lit 0) g23)) p27 
(oSet (xLook (lkExtract (nat_lit 1) g23)) p28 
(oSet (xMove g27) p9 
(oSet (xMove g28) p10 
oEnd)))))))) (kSeq (kSeq (oSet (xMove g10) p29 
(oSet (xLook (lkEq false .int g29 q6)) p30 
oEnd)) (kCond g30 (oSet (xMove g0) p31 
(oSet (xLook (lkFieldAddr (nat_lit 0) g8)) p32 
(oSet (xLook (lkFieldAddr (nat_lit 0) g32)) p33 
(oSet (xLook (lkLoad1 g33)) p34 
(oSet (xMove g9) p35 
(oSet (xTurn (tnBuildSlice q101 [((nat_lit 0), (nat_lit 1), g35)] (nat_lit 1))) p36 
(oSet (xCall q102 [g31, g34, g36]) p37 
(oSet (xMove g37) p10 
oEnd)))))))) kSkip)) (kSeq (oSet (xMove g10) p38 
(oSet (xLook (lkEq true .int g38 q6)) p39 
oEnd)) (kCond g39 (kSeq (oSet (xMove g10) p40 
(oSet (xMove g40) p6 
oEnd)) kRet) kSkip)))))) (oSet (xLook (lkBin .add g19 q14)) p41 
(oSet (xMove g41) p19 
oEnd)))))))) (kSeq (oSet (xMove g2) p43 
(oSet (xCall q100 [q7, g43]) p44 
(oSet (xMove g44) p42 
(oSet (xLook (lkExtract (nat_lit 0) g42)) p45 
(oSet (xLook (lkExtract (nat_lit 1) g42)) p46 
(oSet (xMove g45) p11 
(oSet (xMove g46) p12 
oEnd))))))) (kSeq (kSeq (oSet (xMove g12) p47 
(oSet (xLook (lkEq false .int g47 q6)) p48 
oEnd)) (kCond g48 (oSet (xMove g0) p49 
(oSet (xLook (lkFieldAddr (nat_lit 33) g4)) p50 
(oSet (xLook (lkLoad1 g50)) p51 
(oSet (xMove g11) p52 
(oSet (xTurn (tnBuildSlice q101 [((nat_lit 0), (nat_lit 1), g52)] (nat_lit 1))) p53 
(oSet (xCall q102 [g49, g51, g53]) p54 
(oSet (xMove g54) p12 
oEnd))))))) kSkip)) (kSeq (kSeq (oSet (xMove g12) p55 
(oSet (xLook (lkEq false .int g55 q6)) p56 
oEnd)) (kCond g56 (oSet (xMove g0) p57 
(oSet (xNil g57) p58 
(oSet (xLook (lkFieldAddr (nat_lit 2) g58)) p59 
(oSet (xLook (lkLoad1 g59)) p60 
(oSet (xCall q103 [g60]) p61 
(oSet (xMove g61) p12 
oEnd)))))) kSkip)) (kSeq (kSeq (oSet (xMove g12) p62 
(oSet (xLook (lkEq false .int g62 q6)) p63 
oEnd)) (kCond g63 (kDraw 
(dLook (nat_lit 0) [] [] (lkMove g0) p64 
(dTurn (nat_lit 1) [] [] false (xNil g64) p65 
(dLook (nat_lit 2) [] [] (lkFieldAddr (nat_lit 2) g65) p66 
(dLook (nat_lit 3) [] [] (lkLoad1 g66) p67 
(dLook (nat_lit 4) [] [] (lkLoadN (nat_lit 35) g4) p68 
(dTurn (nat_lit 5) [] [] true (xCall q104 [g67, g68]) p69 
(dLook (nat_lit 6) [] [(nat_lit 5)] (lkMove g69) p12 (dEnd [(nat_lit 64), (nat_lit 65), (nat_lit 66), (nat_lit 67), (nat_lit 68), (nat_lit 69), (nat_lit 12)]))))))))) kSkip)) (kSeq (oSet (xMove g12) p70 
(oSet (xMove g70) p6 
oEnd)) kRet)))))))⟩
def q105 : OpdF := kC (.map none)
noncomputable def k84 : KFun := ⟨[rTmp (nat_lit 2) g2], (kSeq (oSet (xMove q105) p2 
oEnd) (kSeq (oSet (xTurn (tnMkMap (.many (nat_lit 32) .u8))) p8 
(oSet (xMove g8) p3 
oEnd)) (kSeq (kSeq (oSet (xMove g0) p9 
(oSet (xNil g9) p10 
(oSet (xLook (lkFieldAddr (nat_lit 38) g10)) p11 
(oSet (xLook (lkLoad1 g11)) p12 
(oSet (xTurn (tnRangeMap g12)) p13 
oEnd))))) (kBlock (nat_lit 0) (kLoop (kSeq (oSet (xNextMap g13) p14 
(oSet (xLook (lkExtract (nat_lit 0) g14)) p15 
oEnd)) (kSeq (kCond g15 kSkip (kExit (nat_lit 0))) (kBlock (nat_lit 1) (kSeq (oSet (xLook (lkEntry g13)) p16 
(oSet (xLook (lkExtract (nat_lit 0) g16)) p17 
(oSet (xLook (lkExtract (nat_lit 1) g16)) p18 
(oSet (xTurn (tnAlloc q9)) p4 
(oSet (xTurn (tnAlloc q40)) p5 
(oDo (xTurn (tnStore (nat_lit 32) g4 g17)) 
(oDo (xTurn (tnStore (nat_lit 2) g5 g18)) 
oEnd))))))) (kSeq (kDraw 
(dLook (nat_lit 0) [] [] (lkMove g0) p19 
(dTurn (nat_lit 1) [] [] false (xNil g19) p20 
(dLook (nat_lit 2) [] [] (lkFieldAddr (nat_lit 0) g20) p21 
(dLook (nat_lit 3) [] [] (lkLoadN (nat_lit 32) g4) p22 
(dTurn (nat_lit 4) [] [] true (xCall q55 [g21, g22]) p23 
(dLook (nat_lit 5) [] [(nat_lit 4)] (lkUn .not g23) p24 (dEnd [(nat_lit 19), (nat_lit 20), (nat_lit 21), (nat_lit 22), (nat_lit 23), (nat_lit 24)])))))))) (kCond g24 (oSet (xMove g3) p25 
(oSet (xLook (lkLoadN (nat_lit 32) g4)) p26 
(oSet (xLook (lkLoadN (nat_lit 2) g5)) p27 
(oDo (xTurn (tnMapUpdate (.many (nat_lit 32) .u8) g25 g26 g27)) 
oEnd)))) kSkip))))))))) (kSeq (kSeq (oSet (xMove g0) p28 
(oSet (xNil g28) p29 
(oSet (xLook (lkFieldAddr (nat_lit 0) g29)) p30 
(oSet (xLook (lkFieldAddr (nat_lit 0) g30)) p31 
(oSet (xLook (lkLoad1 g31)) p32 
(oSet (xLook (lkLen .sl g32)) p33 
(oSet (xMove q6) p34 
oEnd))))))) (kBlock (nat_lit 2) (kLoop (kSeq (oSet (xLook (lkBin .lss g34 g33)) p35 
oEnd) (kSeq (kCond g35 kSkip (kExit (nat_lit 2))) (kSeq (kBlock (nat_lit 3) (kSeq (oSet (xLook (lkIxSl (nat_lit 35) g32 g34)) p36 
(oSet (xLook (lkLoadN (nat_lit 35) g36)) p37 
(oSet (xTurn (tnAlloc q71)) p7 
(oDo (xTurn (tnStore (nat_lit 35) g7 g37)) 
oEnd)))) (oSet (xMove g3) p38 
(oSet (xLook (lkFieldAddr (nat_lit 2) g7)) p39 
(oSet (xLook (lkLoadN (nat_lit 32) g39)) p40 
(oSet (xLook (lkFieldAddr (nat_lit 0) g7)) p41 
(oSet (xLook (lkLoadN (nat_lit 2) g41)) p42 
(oDo (xTurn (tnMapUpdate (.many (nat_lit 32) .u8) g38 g40 g42)) 
oEnd)))))))) (oSet (xLook (lkBin .add g34 q14)) p43 
(oSet (xMove g43) p34 
oEnd)))))))) (kSeq (oSet (xMove g3) p44 
(oSet (xMove g44) p2 
oEnd)) kRet)))))⟩
def q106 : List Value := [(.slice none (nat_lit 0) (nat_lit 0)), (.map none)]
noncomputable def k85 : KFun := ⟨[rCellN (nat_lit 0) g0 (nat_lit 2)], (kSeq (oSet (xTurn (tnAlloc q106)) p0 
oEnd) (kSeq (oSet (xTurn (tnMkMap (.many (nat_lit 32) .u8))) p1 
(oSet (xLook (lkBuild q106 [((nat_lit 1), (nat_lit 1), g1)])) p2 
(oDo (xTurn (tnStore (nat_lit 2) g0 g2)) 
oEnd))) kRet))⟩
def q107 : OpdF := kC (.func (.func (nat_lit 150)) ⟨[]⟩ ⟨[]⟩)
def q108 : List Value := [(.int .u8 (.ofNat (nat_lit 0))), (.int .u8 (.ofNat (nat_lit 0))), (.int .u8 (.ofNat (nat_lit 0))), (.int .u8 (.ofNat (nat_lit 0))), (.int .u8 (.ofNat (nat_lit 0))), (.int .u8 (.ofNat (nat_lit 0))), (.int .u8 (.ofNat (nat_lit 0))), (.int .u8 (.ofNat (nat_lit 0))), (.int .u8 (.ofNat (nat_lit 0))), (.int .u8 (.ofNat (nat_lit 0))), (.int .u8 (.ofNat (nat_lit 0))), (.int .u8 (.ofNat (nat_lit 0))), (.int .u8 (.ofNat (nat_lit 0))), (.int .u8 (.ofNat (nat_lit 0))), (.int .u8 (.ofNat (nat_lit 0))), (.int .u8 (.ofNat (nat_lit 0))), (.int .u8 (.ofNat (nat_lit 0))), (.int .u8 (.ofNat (nat_lit 0))), (.int .u8 (.ofNat (nat_lit 0))), (.int .u8 (.ofNat (nat_lit 0))), (.int .u8 (.ofNat (nat_lit 0))), (.int .u8 (.ofNat (nat_lit 0))), (.int .u8 (.ofNat (nat_lit 0))), (.int .u8 (.ofNat (nat_lit 0))), (.int .u8 (.ofNat (nat_lit 0))), (.int .u8 (.ofNat (nat_lit 0))), (.int .u8 (.ofNat (nat_lit 0))), (.int .u8 (.ofNat (nat_lit 0))), (.int .u8 (.ofNat (nat_lit 0))), (.int .u8 (.ofNat (nat_lit 0))), (.int .u8 (.ofNat (nat_lit 0))), (.int .u8 (.ofNat (nat_lit 0))), (.int .u8 (.ofNat (nat_lit 0))), (.int .u8 (.ofNat (nat_lit 0))), (.int .u8 (.ofNat (nat_lit 0))), (.int .u8 (.ofNat (nat_lit 0))), (.int .u8 (.ofNat (nat_lit 0))), (.int .u8 (.ofNat (nat_lit 0))), (.int .u8 (.ofNat (nat_lit 0))), (.int .u8 (.ofNat (nat_lit 0))), (.int .u8 (.ofNat (nat_lit 0))), (.int .u8 (.ofNat (nat_lit 0))), (.int .u8 (.ofNat (nat_lit 0))), (.int .u8 (.ofNat (nat_lit 0))), (.int .u8 (.ofNat (nat_lit 0))), (.int .u8 (.ofNat (nat_lit 0))), (.int .u8 (.ofNat (nat_lit 0))), (.int .u8 (.ofNat (nat_lit 0))), (.int .u8 (.ofNat (nat_lit 0))), (.int .u8 (.ofNat (nat_lit 0))), (.int .u8 (.ofNat (nat_lit 0))), (.int .u8 (.ofNat (nat_lit 0))), (.int .u8 (.ofNat (nat_lit 0))), (.int .u8 (.ofNat (nat_lit 0))), (.int .u8 (.ofNat (nat_lit 0))), (.int .u8 (.ofNat (nat_lit 0))), (.int .u8 (.ofNat (nat_lit 0))), (.int .u8 (.ofNat (nat_lit 0))), (.int .u8 (.ofNat (nat_lit 0))), (.int .u8 (.ofNat (nat_lit 0))), (.int .u8 (.ofNat (nat_lit 0))), (.int .u8 (.ofNat (nat_lit 0))), (.int .u8 (.ofNat (nat_lit 0))), (.int .u8 (.ofNat (nat_lit 0)))]
def q109 : List Value := [(.int .i64 (.ofNat (nat_lit 0))), (.int .u8 (.ofNat (nat_lit 0))), (.int .u8 (.ofNat (nat_lit 0))), (.int .u8 (.ofNat (nat_lit 0))), (.int .u8 (.ofNat (nat_lit 0))), (.int .u8 (.ofNat (nat_lit 0))), (.int .u8 (.ofNat (nat_lit 0))), (.int .u8 (.ofNat (nat_lit 0))), (.int .u8 (.ofNat (nat_lit 0))), (.int .u8 (.ofNat (nat_lit 0))), (.int .u8 (.ofNat (nat_lit 0))), (.int .u8 (.ofNat (nat_lit 0))), (.int .u8 (.ofNat (nat_lit 0))), (.int .u8 (.ofNat (nat_lit 0))), (.int .u8 (.ofNat (nat_lit 0))), (.int .u8 (.ofNat (nat_lit 0))), (.int .u8 (.ofNat (nat_lit 0))), (.int .u8 (.ofNat (nat_lit 0))), (.int .u8 (.ofNat (nat_lit 0))), (.int .u8 (.ofNat (nat_lit 0))), (.int .u8 (.ofNat (nat_lit 0))), (.int .u8 (.ofNat (nat_lit 0))), (.int .u8 (.ofNat (nat_lit 0))), (.int .u8 (.ofNat (nat_lit 0))), (.int .u8 (.ofNat (nat_lit 0))), (.int .u8 (.ofNat (nat_lit 0))), (.int .u8 (.ofNat (nat_lit 0))), (.int .u8 (.ofNat (nat_lit 0))), (.int .u8 (.ofNat (nat_lit 0))), (.int .u8 (.ofNat (nat_lit 0))), (.int .u8 (.ofNat (nat_lit 0))), (.int .u8 (.ofNat (nat_lit 0))), (.int .u8 (.ofNat (nat_lit 0))), (.int .u8 (.ofNat (nat_lit 0))), (.int .u8 (.ofNat (nat_lit 0))), (.int .u8 (.ofNat (nat_lit 0))), (.int .u8 (.ofNat (nat_lit 0))), (.int .u8 (.ofNat (nat_lit 0))), (.int .u8 (.ofNat (nat_lit 0))), (.int .u8 (.ofNat (nat_lit 0))), (.int .u8 (.ofNat (nat_lit 0))), (.int .u8 (.ofNat (nat_lit 0))), (.int .u8 (.ofNat (nat_lit 0))), (.int .u8 (.ofNat (nat_lit 0))), (.int .u8 (.ofNat (nat_lit 0))), (.int .u8 (.ofNat (nat_lit 0))), (.int .u8 (.ofNat (nat_lit 0))), (.int .u8 (.ofNat (nat_lit 0))), (.int .u8 (.ofNat (nat_lit 0))), (.int .u8 (.ofNat (nat_lit 0))), (.int .u8 (.ofNat (nat_lit 0))), (.int .u8 (.ofNat (nat_lit 0))), (.int .u8 (.ofNat (nat_lit 0))), (.int .u8 (.ofNat (nat_lit 0))), (.int .u8 (.ofNat (nat_lit 0))), (.int .u8 (.ofNat (nat_lit 0))), (.int .u8 (.ofNat (nat_lit 0))), (.int .u8 (.ofNat (nat_lit 0))), (.int .u8 (.ofNat (nat_lit 0))), (.int .u8 (.ofNat (nat_lit 0))), (.int .u8 (.ofNat (nat_lit 0))), (.int .u8 (.ofNat (nat_lit 0))), (.int .u8 (.ofNat (nat_lit 0))), (.int .u8 (.ofNat (nat_lit 0))), (.int .u8 (.ofNat (nat_lit 0)))]
noncomputable def k86 : KFun := ⟨[rTmp (nat_lit 4) g4, rTmp (nat_lit 5) g5], (kSeq (oSet (xMove q12) p4 
(oSet (xMove q6) p5 
oEnd)) (kSeq (kSeq (oSet (xMove g0) p10 
(oSet (xMove g1) p11 
(oSet (xCall q107 [g10, g11]) p12 
(oSet (xMove g12) p6 
oEnd)))) (kSeq (oSet (xMove g6) p13 
(oSet (xLook (lkEq true .int g13 q6)) p14 
oEnd)) (kCond g14 (kSeq (oSet (xMove g6) p15 
(oSet (xMove q12) p4 
(oSet (xMove g15) p5 
oEnd))) kRet) kSkip))) (kSeq (oSet (xMove g0) p16 
(oSet (xNil g16) p17 
(oSet (xLook (lkFieldAddr (nat_lit 5) g17)) p18 
(oSet (xLook (lkLoad1 g18)) p19 
(oSet (xMove g1) p20 
(oSet (xLook (lkLookup (.one (.int .i64)) (.agg ⟨[(.int .u8 (.ofNat (nat_lit 0))), (.int .u8 (.ofNat (nat_lit 0))), (.int .u8 (.ofNat (nat_lit 0))), (.int .u8 (.ofNat (nat_lit 0))), (.int .u8 (.ofNat (nat_lit 0))), (.int .u8 (.ofNat (nat_lit 0))), (.int .u8 (.ofNat (nat_lit 0))), (.int .u8 (.ofNat (nat_lit 0))), (.int .u8 (.ofNat (nat_lit 0))), (.int .u8 (.ofNat (nat_lit 0))), (.int .u8 (.ofNat (nat_lit 0))), (.int .u8 (.ofNat (nat_lit 0))), (.int .u8 (.ofNat (nat_lit 0))), (.int .u8 (.ofNat (nat_lit 0))), (.int .u8 (.ofNat (nat_lit 0))), (.int .u8 (.ofNat (nat_lit 0))), (.int .u8 (.ofNat (nat_lit 0))), (.int .u8 (.ofNat (nat_lit 0))), (.int .u8 (.ofNat (nat_lit 0))), (.int .u8 (.ofNat (nat_lit 0))), (.int .u8 (.ofNat (nat_lit 0))), (.int .u8 (.ofNat (nat_lit 0))), (.int .u8 (.ofNat (nat_lit 0))), (.int .u8 (.ofNat (nat_lit 0))), (.int .u8 (.ofNat (nat_lit 0))), (.int .u8 (.ofNat (nat_lit 0))), (.int .u8 (.ofNat (nat_lit 0))), (.int .u8 (.ofNat (nat_lit 0))), (.int .u8 (.ofNat (nat_lit 0))), (.int .u8 (.ofNat (nat_lit 0))), (.int .u8 (.ofNat (nat_lit 0))), (.int .u8 (.ofNat (nat_lit 0))), (.int .u8 (.ofNat (nat_lit 0))), (.int .u8 (.ofNat (nat_lit 0))), (.int .u8 (.ofNat (nat_lit 0))), (.int .u8 (.ofNat (nat_lit 0))), (.int .u8 (.ofNat (nat_lit 0))), (.int .u8 (.ofNat (nat_lit 0))), (.int .u8 (.ofNat (nat_lit 0))), (.int .u8 (.ofNat (nat_lit 0))), (.int .u8 (.ofNat (nat_lit 0))), (.int .u8 (.ofNat (nat_lit 0))), (.int .u8 (.ofNat (nat_lit 0))), (.int .u8 (.ofNat (nat_lit 0))), (.int .u8 (.ofNat (nat_lit 0))), (.int .u8 (.ofNat (nat_lit 0))), (.int .u8 (.ofNat (nat_lit 0))), (.int .u8 (.ofNat (nat_lit 0))), (.int .u8 (.ofNat (nat_lit 0))), (.int .u8 (.ofNat (nat_lit 0))), (.int .u8 (.ofNat (nat_lit 0))), (.int .u8 (.ofNat (nat_lit 0))), (.int .u8 (.ofNat (nat_lit 0))), (.int .u8 (.ofNat (nat_lit 0))), (.int .u8 (.ofNat (nat_lit 0))), (.int .u8 (.ofNat (nat_lit 0))), (.int .u8 (.ofNat (nat_lit 0))), (.int .u8 (.ofNat (nat_lit 0))), (.int .u8 (.ofNat (nat_lit 0))), (.int .u8 (.ofNat (nat_lit 0))), (.int .u8 (.ofNat (nat_lit 0))), (.int .u8 (.ofNat (nat_lit 0))), (.int .u8 (.ofNat (nat_lit 0))), (.int .u8 (.ofNat (nat_lit 0)))]⟩) false g19 g20)) p21 
(oSet (xTurn (tnAlloc q108)) p7 
(oDo (xTurn (tnStore (nat_lit 64) g7 g21)) 
oEnd)))))))) (kSeq (kSeq (oSet (xMove g0) p22 
(oSet (xNil g22) p23 
(oSet (xLook (lkFieldAddr (nat_lit 6) g23)) p24 
(oSet (xLook (lkLoad1 g24)) p25 
(oSet (xLook (lkLen .sl g25)) p26 
(oSet (xMove q6) p27 
oEnd)))))) (kBlock (nat_lit 0) (kLoop (kSeq (oSet (xLook (lkBin .lss g27 g26)) p28 
oEnd) (kSeq (kCond g28 kSkip (kExit (nat_lit 0))) (kSeq (kBlock (nat_lit 1) (kSeq (oSet (xLook (lkIxSl (nat_lit 65) g25 g27)) p29 
(oSet (xLook (lkLoadN (nat_lit 65) g29)) p30 
(oSet (xTurn (tnAlloc q109)) p9 
(oDo (xTurn (tnStore (nat_lit 65) g9 g30)) 
oEnd)))) (kSeq (oSet (xLook (lkFieldAddr (nat_lit 0) g9)) p31 
(oSet (xLook (lkLoad1 g31)) p32 
(oSet (xMove g1) p33 
(oSet (xLook (lkEq false .int g32 g33)) p34 
oEnd)))) (kCond g34 (oSet (xLook (lkFieldAddr (nat_lit 1) g9)) p35 
(oSet (xLook (lkLoadN (nat_lit 64) g35)) p36 
(oDo (xTurn (tnStore (nat_lit 64) g7 g36)) 
oEnd))) kSkip)))) (oSet (xLook (lkBin .add g27 q14)) p37 
(oSet (xMove g37) p27 
oEnd)))))))) (kSeq (oSet (xLook (lkSliceArr (nat_lit 64) (nat_lit 1) g7 none none none)) p38 
(oSet (xMove g38) p4 
(oSet (xMove q6) p5 
oEnd))) kRet)))))⟩
def q110 : OpdF := kC (.func (.func (nat_lit 151)) ⟨[]⟩ ⟨[]⟩)
noncomputable def k87 : KFun := ⟨[rTmp (nat_lit 2) g2], (kSeq (oSet (xMove q6) p2 
oEnd) (kSeq (kSeq (oSet (xMove g0) p3 
(oSet (xCall q110 [g3]) p4 
oEnd)) (kCond g4 (kSeq (oSet (xMove q6) p2 
oEnd) kRet) kSkip)) (kSeq (oSet (xMove g0) p5 
(oSet (xNil g5) p6 
(oSet (xLook (lkFieldAddr (nat_lit 4) g6)) p7 
(oSet (xLook (lkLoad1 g7)) p8 
(oSet (xMove g8) p2 
oEnd))))) kRet)))⟩
def q111 : OpdF := kC (.func (.func (nat_lit 152)) ⟨[]⟩ ⟨[]⟩)
def q112 : OpdF := kC (.func (.func (nat_lit 153)) ⟨[]⟩ ⟨[]⟩)
noncomputable def k88 : KFun := ⟨[rCellN (nat_lit 2) g2 (nat_lit 35), rTmp (nat_lit 3) g3, rTmp (nat_lit 4) g4], (kSeq (oSet (xTurn (tnAlloc q35)) p2 
(oSet (xMove q6) p3 
(oSet (xMove q6) p4 
oEnd))) (kSeq (oSet (xMove g0) p10 
(oSet (xCall q111 [g10]) p11 
(oSet (xMove g11) p9 
(oSet (xLook (lkExtract (nat_lit 0) g9)) p12 
(oSet (xLook (lkExtract (nat_lit 1) g9)) p13 
(oSet (xLook (lkExtract (nat_lit 2) g9)) p14 
(oSet (xMove g12) p5 
(oSet (xMove g13) p6 
(oSet (xMove g14) p7 
oEnd))))))))) (kSeq (kSeq (oSet (xMove g7) p15 
(oSet (xLook (lkEq true .int g15 q6)) p16 
oEnd)) (kCond g16 (kSeq (oSet (xLook (lkBuild q35 [])) p17 
(oSet (xMove g7) p18 
(oDo (xTurn (tnStore (nat_lit 35) g2 g17)) 
(oSet (xMove q6) p3 
(oSet (xMove g18) p4 
oEnd))))) kRet) kSkip)) (kSeq (kSeq (oSet (xMove g5) p19 
(oSet (xCall q112 [g19]) p20 
(oSet (xMove g20) p8 
oEnd))) (kBlock (nat_lit 0) (kSeq (oSet (xMove g8) p22 
(oSet (xLook (lkBin .geq g22 q6)) p23 
(oSet (xMove g23) p21 
oEnd))) (kCond g21 (kSeq (oSet (xMove g5) p24 
(oSet (xMove g8) p25 
(oSet (xLook (lkIxSl (nat_lit 1) g24 g25)) p26 
(oSet (xLook (lkLoad1 g26)) p27 
(oSet (xNil g27) p28 
(oSet (xLook (lkLoadN (nat_lit 35) g28)) p29 
(oSet (xMove g8) p30 
(oDo (xTurn (tnStore (nat_lit 35) g2 g29)) 
(oSet (xMove g30) p3 
(oSet (xMove q6) p4 
oEnd)))))))))) kRet) (kSeq (oSet (xMove g6) p32 
(oSet (xMove g32) p31 
oEnd)) (kCond g31 (kSeq (oSet (xLook (lkBuild q35 [])) p33 
(oDo (xTurn (tnStore (nat_lit 35) g2 g33)) 
(oSet (xMove q6) p3 
(oSet (xMove q31) p4 
oEnd)))) kRet) kSkip)))))) (kSeq (oSet (xLook (lkBuild q35 [])) p34 
(oDo (xTurn (tnStore (nat_lit 35) g2 g34)) 
(oSet (xMove q6) p3 
(oSet (xMove q47) p4 
oEnd)))) kRet)))))⟩
noncomputable def k89d0 : KD := 
(dLook (nat_lit 17) [] [(nat_lit 5), (nat_lit 12), (nat_lit 15)] (lkPick g13 g21 q0) p22 
(dLook (nat_lit 18) [] [(nat_lit 5), (nat_lit 12), (nat_lit 15)] (lkMove g22) p4 (dEnd [(nat_lit 5), (nat_lit 6), (nat_lit 7), (nat_lit 8), (nat_lit 9), (nat_lit 10), (nat_lit 11), (nat_lit 12), (nat_lit 13), (nat_lit 14), (nat_lit 15), (nat_lit 16), (nat_lit 17), (nat_lit 18), (nat_lit 19), (nat_lit 20), (nat_lit 21), (nat_lit 22), (nat_lit 4)])))
noncomputable def k89d1 : KD := 
(dIf [(nat_lit 5), (nat_lit 12), (nat_lit 15)] (wantT g13) p21 (dLook (nat_lit 16) [] [(nat_lit 5), (nat_lit 12), (nat_lit 15)] (lkBin .leq g18 g20) p21 k89d0) k89d0)
noncomputable def k89d2 : KD := 
(dIf [(nat_lit 5), (nat_lit 12)] (wantT g13) p20 (dTurn (nat_lit 15) [(nat_lit 10)] [(nat_lit 5), (nat_lit 12)] true (xCall q42 [g19]) p20 k89d1) k89d1)
noncomputable def k89d3 : KD := 
(dIf [(nat_lit 5)] (wantT g13) p19 (dLook (nat_lit 14) [] [(nat_lit 5)] (lkMove g0) p19 k89d2) k89d2)
noncomputable def k89d4 : KD := 
(dIf [(nat_lit 5), (nat_lit 12)] (wantT g13) p18 (dLook (nat_lit 13) [] [(nat_lit 5), (nat_lit 12)] (lkBin .add g15 g17) p18 k89d3) k89d3)
noncomputable def k89d5 : KD := 
(dIf [(nat_lit 5)] (wantT g13) p17 (dTurn (nat_lit 12) [(nat_lit 10)] [(nat_lit 5)] true (xCall q49 [g16]) p17 k89d4) k89d4)
noncomputable def k89d6 : KD := 
(dIf [(nat_lit 5)] (wantT g13) p16 (dLook (nat_lit 11) [] [(nat_lit 5)] (lkLoadN (nat_lit 2) g3) p16 k89d5) k89d5)
noncomputable def k89d7 : KD := 
(dIf [(nat_lit 5)] (wantT g13) p15 (dLook (nat_lit 10) [] [(nat_lit 5)] (lkLoad1 g14) p15 k89d6) k89d6)
noncomputable def k89d8 : KD := 
(dLook (nat_lit 7) [] [(nat_lit 5)] (lkPick g8 g11 q0) p12 
(dLook (nat_lit 8) [] [(nat_lit 5)] (lkMove g12) p13 
(dIf [(nat_lit 5)] (wantT g13) p14 (dLook (nat_lit 9) [] [(nat_lit 5)] (lkFieldAddr (nat_lit 0) g3) p14 k89d7) k89d7)))
noncomputable def k89d9 : KD := 
(dIf [(nat_lit 5)] (wantT g8) p11 (dLook (nat_lit 6) [] [(nat_lit 5)] (lkBin .gtr g10 q6) p11 k89d8) k89d8)
noncomputable def k89d10 : KD := 
(dIf [] (wantT g8) p10 (dTurn (nat_lit 5) [] [] true (xCall q49 [g9]) p10 k89d9) k89d9)
noncomputable def k89 : KFun := ⟨[rTmp (nat_lit 4) g4], (kSeq (oSet (xTurn (tnBox g1)) p3 
(oSet (xMove q0) p4 
oEnd)) (kSeq (kDraw 
(dLook (nat_lit 0) [] [] (lkFieldAddr (nat_lit 0) g3) p5 
(dLook (nat_lit 1) [] [] (lkLoad1 g5) p6 
(dLook (nat_lit 2) [] [] (lkBin .geq g6 q7) p7 
(dLook (nat_lit 3) [] [] (lkMove g7) p8 
(dIf [] (wantT g8) p9 (dLook (nat_lit 4) [] [] (lkLoadN (nat_lit 2) g3) p9 k89d10) k89d10)))))) kRet))⟩
noncomputable def k90 : KFun := ⟨[rTmp (nat_lit 6) g6, rTmp (nat_lit 7) g7], (kSeq (oSet (xMove q12) p6 
(oSet (xMove q6) p7 
oEnd)) (kSeq (oSet (xMove q12) p8 
oEnd) (kSeq (kSeq (oSet (xMove g2) p12 
(oSet (xMove q6) p13 
oEnd)) (kBlock (nat_lit 0) (kLoop (kSeq (oSet (xLook (lkBin .lss g13 g12)) p14 
oEnd) (kSeq (kCond g14 kSkip (kExit (nat_lit 0))) (kSeq (kBlock (nat_lit 1) (kSeq (oSet (xMove g13) p15 
(oSet (xMove g15) p9 
oEnd)) (kSeq (oSet (xMove g0) p17 
(oSet (xMove g1) p18 
(oSet (xMove g9) p19 
(oSet (xLook (lkBin .add g18 g19)) p20 
(oSet (xCall q41 [g17, g20]) p21 
(oSet (xMove g21) p16 
(oSet (xLook (lkExtract (nat_lit 0) g16)) p22 
(oSet (xLook (lkExtract (nat_lit 1) g16)) p23 
(oSet (xMove g22) p10 
(oSet (xMove g23) p11 
oEnd)))))))))) (kSeq (kSeq (oSet (xMove g11) p24 
(oSet (xLook (lkEq true .int g24 q6)) p25 
oEnd)) (kCond g25 (kSeq (oSet (xMove g11) p26 
(oSet (xMove q12) p6 
(oSet (xMove g26) p7 
oEnd))) kRet) kSkip)) (oSet (xMove g8) p27 
(oSet (xMove g10) p28 
(oSet (xTurn (tnAppend (nat_lit 1) g27 g28)) p29 
(oSet (xMove g29) p8 
oEnd)))))))) (oSet (xLook (lkBin .add g13 q14)) p30 
(oSet (xMove g30) p13 
oEnd)))))))) (kSeq (oSet (xMove g8) p31 
(oSet (xMove g31) p6 
(oSet (xMove q6) p7 
oEnd))) kRet))))⟩
noncomputable def k91 : KFun := ⟨[rTmp (nat_lit 2) g2], (kSeq (oSet (xTurn (tnBox g0)) p1 
(oSet (xMove q6) p2 
oEnd)) (kSeq (oSet (xLook (lkFieldAddr (nat_lit 1) g1)) p3 
(oSet (xLook (lkLoad1 g3)) p4 
(oSet (xCall q33 [g4]) p5 
(oSet (xMove g5) p2 
oEnd)))) kRet))⟩
def q113 : OpdF := kC (.int .i64 (.ofNat (nat_lit 9)))
def q114 : List Value := [(.slice none (nat_lit 0) (nat_lit 0)), (.slice none (nat_lit 0) (nat_lit 0)), (.slice none (nat_lit 0) (nat_lit 0)), (.slice none (nat_lit 0) (nat_lit 0))]
def q115 : List Value := [(.slice none (nat_lit 0) (nat_lit 0)), (.slice none (nat_lit 0) (nat_lit 0))]
def q116 : List Value := [(.int .u8 (.ofNat (nat_lit 0)))]
def q117 : OpdF := kC (.func (.func (nat_lit 154)) ⟨[]⟩ ⟨[]⟩)
noncomputable def k92 : KFun := ⟨[rTmp (nat_lit 2) g2, rTmp (nat_lit 3) g3, rTmp (nat_lit 4) g4], (kSeq (oSet (xMove q6) p2 
(oSet (xMove q12) p3 
(oSet (xMove q6) p4 
oEnd))) (kSeq (kSeq (oSet (xMove g0) p13 
(oSet (xLook (lkLen .sl g13)) p14 
(oSet (xLook (lkBin .lss g14 q86)) p15 
(oSet (xMove g15) p16 
(oSetIf (wantF g16) (xMove g0) p17 
(oSetIf (wantF g16) (xLook (lkLen .sl g17)) p18 
(oSetIf (wantF g16) (xLook (lkBin .rem g18 q86)) p19 
(oSetIf (wantF g16) (xLook (lkEq true .int g19 q6)) p20 
(oSet (xLook (lkPick g16 q13 g20)) p21 
oEnd))))))))) (kCond g21 (kSeq (oSet (xMove q6) p2 
(oSet (xMove q12) p3 
(oSet (xMove q43) p4 
oEnd))) kRet) kSkip)) (kSeq (oSet (xMove g0) p22 
(oSet (xLook (lkIxSl (nat_lit 1) g22 q6)) p23 
(oSet (xLook (lkLoad1 g23)) p24 
(oSet (xLook (lkIntTo .i64 g24)) p25 
(oSet (xMove g25) p5 
(oSet (xMove q6) p6 
oEnd)))))) (kSeq (kSeq (oSet (xMove g0) p26 
(oSet (xLook (lkSliceSl (nat_lit 1) g26 (some q14) (some q77) none)) p27 
(oSet (xLook (lkLen .sl g27)) p28 
(oSet (xMove q6) p29 
oEnd)))) (kBlock (nat_lit 0) (kLoop (kSeq (oSet (xLook (lkBin .lss g29 g28)) p30 
oEnd) (kSeq (kCond g30 kSkip (kExit (nat_lit 0))) (kSeq (kBlock (nat_lit 1) (kSeq (oSet (xLook (lkIxSl (nat_lit 1) g27 g29)) p31 
(oSet (xLook (lkLoad1 g31)) p32 
(oSet (xMove g32) p8 
oEnd))) (oSet (xMove g6) p33 
(oSet (xLook (lkBin .shl g33 q91)) p34 
(oSet (xMove g8) p35 
(oSet (xLook (lkIntTo .i64 g35)) p36 
(oSet (xLook (lkBin .or g34 g36)) p37 
(oSet (xMove g37) p6 
oEnd)))))))) (oSet (xLook (lkBin .add g29 q14)) p38 
(oSet (xMove g38) p29 
oEnd)))))))) (kSeq (kBlock (nat_lit 2) (kSeq (oSet (xMove g5) p40 
(oSet (xLook (lkBin .lss g40 q14)) p41 
(oSet (xMove g41) p42 
(oSetIf (wantF g42) (xMove g5) p43 
(oSetIf (wantF g42) (xLook (lkBin .gtr g43 q113)) p44 
(oSet (xLook (lkPick g42 q13 g44)) p45 
(oSet (xMove g45) p39 
oEnd))))))) (kCond g39 (kSeq (oSet (xMove q6) p2 
(oSet (xMove q12) p3 
(oSet (xMove q7) p4 
oEnd))) kRet) (kSeq (oSet (xMove g6) p47 
(oSet (xLook (lkBin .gtr g47 q68)) p48 
(oSet (xMove g48) p46 
oEnd))) (kCond g46 (kSeq (oSet (xMove q6) p2 
(oSet (xMove q12) p3 
(oSet (xMove q69) p4 
oEnd))) kRet) (kSeq (oSet (xMove g6) p50 
(oSet (xCall q33 [g50]) p51 
(oSet (xLook (lkBin .mul g51 q86)) p52 
(oSet (xMove g0) p53 
(oSet (xLook (lkLen .sl g53)) p54 
(oSet (xLook (lkEq true .int g52 g54)) p55 
(oSet (xMove g55) p49 
oEnd))))))) (kCond g49 (kSeq (oSet (xMove q6) p2 
(oSet (xMove q12) p3 
(oSet (xMove q43) p4 
oEnd))) kRet) kSkip))))))) (kSeq (oSet (xMove g0) p56 
(oSet (xMove g6) p57 
(oSet (xLook (lkBin .add q99 g57)) p58 
(oSet (xLook (lkSliceSl (nat_lit 1) g56 (some q99) (some g58) none)) p59 
(oSet (xMove g59) p9 
oEnd))))) (kSeq (oSet (xMove g9) p60 
(oSet (xCall q30 [g60]) p61 
(oSet (xTurn (tnAlloc q9)) p10 
(oDo (xTurn (tnStore (nat_lit 32) g10 g61)) 
oEnd)))) (kSeq kSkip (kSeq (kSeq (kDraw 
(dLook (nat_lit 0) [] [] (lkMove g0) p62 
(dLook (nat_lit 1) [] [] (lkSliceSl (nat_lit 1) g62 (some q77) (some q99) none) p63 
(dLook (nat_lit 2) [] [] (lkSliceArr (nat_lit 32) (nat_lit 1) g10 none none none) p64 
(dLook (nat_lit 3) [] [] (lkBuild q115 [((nat_lit 0), (nat_lit 1), g63), ((nat_lit 1), (nat_lit 1), g64)]) p65 
(dLook (nat_lit 4) [] [] (lkMove g0) p66 
(dLook (nat_lit 5) [] [] (lkMove g6) p67 
(dLook (nat_lit 6) [] [] (lkBin .add q99 g67) p68 
(dLook (nat_lit 7) [] [] (lkSliceSl (nat_lit 1) g66 (some g68) none none) p69 
(dLook (nat_lit 8) [] [] (lkMove g0) p70 
(dLook (nat_lit 9) [] [] (lkLen .sl g70) p71 
(dLook (nat_lit 10) [] [] (lkBin .sub g71 q99) p72 
(dLook (nat_lit 11) [] [] (lkMove g6) p73 
(dLook (nat_lit 12) [] [] (lkBin .sub g72 g73) p74 
(dTurn (nat_lit 13) [] [] false (xTurn (tnMkSlice q116 g74 g74)) p75 
(dLook (nat_lit 14) [] [] (lkBuild q115 [((nat_lit 0), (nat_lit 1), g69), ((nat_lit 1), (nat_lit 1), g75)]) p76 
(dTurn (nat_lit 15) [] [] false (xTurn (tnBuildSlice q114 [((nat_lit 0), (nat_lit 2), g65), ((nat_lit 2), (nat_lit 2), g76)] (nat_lit 2))) p77 
(dLook (nat_lit 16) [] [] (lkLen .sl g77) p78 
(dLook (nat_lit 17) [] [] (lkMove q6) p79 (dEnd [(nat_lit 62), (nat_lit 63), (nat_lit 64), (nat_lit 65), (nat_lit 66), (nat_lit 67), (nat_lit 68), (nat_lit 69), (nat_lit 70), (nat_lit 71), (nat_lit 72), (nat_lit 73), (nat_lit 74), (nat_lit 75), (nat_lit 76), (nat_lit 77), (nat_lit 78), (nat_lit 79)])))))))))))))))))))) (kBlock (nat_lit 3) (kLoop (kSeq (oSet (xLook (lkBin .lss g79 g78)) p80 
oEnd) (kSeq (kCond g80 kSkip (kExit (nat_lit 3))) (kSeq (kBlock (nat_lit 4) (kSeq (oSet (xLook (lkIxSl (nat_lit 2) g77 g79)) p81 
(oSet (xLook (lkLoadN (nat_lit 2) g81)) p82 
(oSet (xTurn (tnAlloc q115)) p12 
(oDo (xTurn (tnStore (nat_lit 2) g12 g82)) 
oEnd)))) (kSeq (kBlock (nat_lit 5) (kSeq (oSet (xLook (lkFieldAddr (nat_lit 0) g12)) p84 
(oSet (xLook (lkLoad1 g84)) p85 
(oSet (xLook (lkFieldAddr (nat_lit 1) g12)) p86 
(oSet (xLook (lkLoad1 g86)) p87 
(oSet (xCall q117 [g85, g87]) p88 
(oSet (xMove g88) p83 
oEnd)))))) (kCond g83 (kExit (nat_lit 4)) kSkip))) (kSeq (oSet (xMove q6) p2 
(oSet (xMove q12) p3 
(oSet (xMove q47) p4 
oEnd))) kRet)))) (oSet (xLook (lkBin .add g79 q14)) p89 
(oSet (xMove g89) p79 
oEnd)))))))) (kSeq (oSet (xMove g5) p90 
(oSet (xMove g9) p91 
(oSet (xCall q72 [g91]) p92 
(oSet (xMove g90) p2 
(oSet (xMove g92) p3 
(oSet (xMove q6) p4 
oEnd)))))) kRet))))))))))⟩
def q118 : OpdF := kC (.func (.func (nat_lit 155)) ⟨[]⟩ ⟨[]⟩)
def q119 : OpdF := kC (.func (.func (nat_lit 156)) ⟨[]⟩ ⟨[]⟩)
def q120 : OpdF := kC (.func (.func (nat_lit 157)) ⟨[]⟩ ⟨[]⟩)
def q121 : OpdF := kC (.func (.func (nat_lit 158)) ⟨[]⟩ ⟨[]⟩)
def q122 : OpdF := kC (.func (.func (nat_lit 159)) ⟨[]⟩ ⟨[]⟩)
def q123 : OpdF := kC (.func (.func (nat_lit 160)) ⟨[]⟩ ⟨[]⟩)
def q124 : OpdF := kC (.func (.func (nat_lit 161)) ⟨[]⟩ ⟨[]⟩)
noncomputable def k93 : KFun := ⟨[rTmp (nat_lit 6) g6, rTmp (nat_lit 7) g7], (kSeq (oSet (xTurn (tnBox g2)) p5 
(oSet (xMove q105) p6 
(oSet (xMove q0) p7 
oEnd))) (kSeq (oSet (xMove g1) p15 
(oSet (xCall q118 [g15]) p16 
(oSet (xMove g16) p8 
oEnd))) (kSeq (oSet (xTurn (tnMkMap (.many (nat_lit 32) .u8))) p17 
(oSet (xMove g17) p9 
oEnd)) (kSeq (oSet (xLook (lkLoadN (nat_lit 2) g5)) p18 
(oSet (xTurn (tnBuildSlice q40 [((nat_lit 0), (nat_lit 2), g18)] (nat_lit 1))) p19 
(oSet (xMove g19) p10 
oEnd))) (kSeq (oSet (xTurn (tnAlloc q9)) p11 
oEnd) (kSeq (kSeq (oSet (xMove g8) p20 
(oSet (xCall q119 [g20, q70]) p21 
(oSet (xMove q6) p22 
oEnd))) (kBlock (nat_lit 0) (kLoop (kSeq (oSet (xLook (lkBin .lss g22 g21)) p23 
oEnd) (kSeq (kCond g23 kSkip (kExit (nat_lit 0))) (kSeq (kBlock (nat_lit 1) (kSeq (oSet (xMove g22) p24 
(oSet (xMove g24) p12 
oEnd)) (kSeq (oSet (xMove g8) p25 
(oSet (xCall q120 [g25]) p26 
(oSet (xTurn (tnAlloc q9)) p13 
(oDo (xTurn (tnStore (nat_lit 32) g13 g26)) 
oEnd)))) (kSeq (oSet (xMove g8) p27 
(oSet (xCall q121 [g27, q6, q68]) p28 
(oSet (xMove g8) p29 
(oSet (xCall q121 [g29, q6, q68]) p30 
(oSet (xLook (lkBuild q40 [((nat_lit 0), (nat_lit 1), g28), ((nat_lit 1), (nat_lit 1), g30)])) p31 
(oSet (xTurn (tnAlloc q40)) p14 
(oDo (xTurn (tnStore (nat_lit 2) g14 g31)) 
oEnd))))))) (kSeq (kSeq (oSet (xMove g8) p32 
(oSet (xCall q122 [g32]) p33 
(oSet (xLook (lkField1 (nat_lit 0) g33)) p34 
(oSet (xLook (lkEq true .int g34 q6)) p35 
(oSet (xMove g35) p36 
(oSetIf (wantF g36) (xMove g12) p37 
(oSetIf (wantF g36) (xLook (lkBin .gtr g37 q6)) p38 
(oSetIf (wantF g36) (xMove g38) p39 
(oSetIf (wantT g39) (xLook (lkLoadN (nat_lit 32) g11)) p40 
(oSetIf (wantT g39) (xLook (lkLoadN (nat_lit 32) g13)) p41 
(oSetIf (wantT g39) (xCall q75 [g40, g41]) p42 
(oSetIf (wantT g39) (xLook (lkBin .geq g42 q6)) p43 
(oSetIf (wantF g36) (xLook (lkPick g39 g43 q0)) p44 
(oSet (xLook (lkPick g36 q13 g44)) p45 
(oSet (xMove g45) p46 
(oSetIf (wantF g46) (xMove g0) p47 
(oSetIf (wantF g46) (xLook (lkLoadN (nat_lit 2) g14)) p48 
(oSetIf (wantF g46) (xCall q46 [g47, g48]) p49 
(oSetIf (wantF g46) (xLook (lkUn .not g49)) p50 
(oSet (xLook (lkPick g46 q13 g50)) p51 
oEnd)))))))))))))))))))) (kCond g51 (kSeq (oSet (xMove q105) p6 
(oSet (xMove q0) p7 
oEnd)) kRet) kSkip)) (kSeq (kDraw 
(dLook (nat_lit 0) [] [] (lkMove g9) p52 
(dLook (nat_lit 1) [] [] (lkLoadN (nat_lit 32) g13) p53 
(dLook (nat_lit 2) [] [] (lkLoadN (nat_lit 2) g14) p54 
(dLook (nat_lit 3) [] [] (lkLoadN (nat_lit 32) g13) p55 
(dTurn (nat_lit 4) [(nat_lit 3)] [] true (xTurn (tnMapUpdate (.many (nat_lit 32) .u8) g52 g53 g54)) noDst 
(dTurn (nat_lit 5) [] [(nat_lit 4)] true (xTurn (tnStore (nat_lit 32) g11 g55)) noDst (dEnd [(nat_lit 52), (nat_lit 53), (nat_lit 54), (nat_lit 55)])))))))) (oSet (xMove g10) p56 
(oSet (xLook (lkLoadN (nat_lit 2) g14)) p57 
(oSet (xTurn (tnBuildSlice q40 [((nat_lit 0), (nat_lit 2), g57)] (nat_lit 1))) p58 
(oSet (xTurn (tnAppend (nat_lit 2) g56 g58)) p59 
(oSet (xMove g59) p10 
oEnd))))))))))) (oSet (xLook (lkBin .add g22 q14)) p60 
(oSet (xMove g60) p22 
oEnd)))))))) (kSeq (oSet (xMove g9) p61 
(oSet (xMove g8) p62 
(oSet (xCall q123 [g62]) p63 
(oSet (xLook (lkField1 (nat_lit 0) g63)) p64 
(oSet (xLook (lkEq false .int g64 q6)) p65 
(oSet (xMove g65) p66 
(oSetIf (wantT g66) (xMove g10) p67 
(oSetIf (wantT g66) (xCall q124 [g67]) p68 
(oSet (xLook (lkPick g66 g68 q0)) p69 
(oSet (xMove g61) p6 
(oSet (xMove g69) p7 
oEnd))))))))))) kRet)))))))⟩
def q125 : OpdF := kC (.func (.func (nat_lit 162)) ⟨[]⟩ ⟨[]⟩)
noncomputable def k94 : KFun := ⟨[rTmp (nat_lit 4) g4], (kSeq (oSet (xMove q12) p4 
oEnd) (kSeq (oSet (xMove g0) p8 
(oSet (xMove g1) p9 
(oSet (xCall q125 [g8, g9]) p10 
(oSet (xMove g10) p5 
oEnd)))) (kSeq (kSeq (oSet (xMove g5) p11 
(oSet (xLook (lkEq false .int g11 q79)) p12 
oEnd)) (kCond g12 (kSeq (oSet (xMove g0) p13 
(oSet (xMove g13) p4 
oEnd)) kRet) kSkip)) (kSeq (kSeq (oSet (xMove g5) p14 
(oSet (xLook (lkBin .add g14 q14)) p15 
(oSet (xMove g15) p6 
oEnd))) (kBlock (nat_lit 0) (kLoop (kSeq (kSeq (oSet (xMove g6) p16 
(oSet (xMove g0) p17 
(oSet (xLook (lkLen .sl g17)) p18 
(oSet (xLook (lkBin .lss g16 g18)) p19 
oEnd)))) (kCond g19 kSkip (kExit (nat_lit 0)))) (kSeq (kBlock (nat_lit 1) (kSeq (oSet (xMove g0) p22 
(oSet (xMove g6) p23 
(oSet (xLook (lkIxSl (nat_lit 35) g22 g23)) p24 
(oSet (xLook (lkLoadN (nat_lit 35) g24)) p25 
(oSet (xTurn (tnAlloc q71)) p7 
(oDo (xTurn (tnStore (nat_lit 35) g7 g25)) 
oEnd)))))) (kSeq (oSet (xMove g1) p26 
(oSet (xLook (lkLoadN (nat_lit 35) g7)) p27 
(oSet (xCall g26 [g27]) p28 
(oSet (xLook (lkUn .not g28)) p29 
oEnd)))) (kCond g29 (kSeq (oSet (xMove g0) p30 
(oSet (xMove g5) p31 
(oSet (xLook (lkLoadN (nat_lit 35) g7)) p32 
(oSet (xLook (lkIxSl (nat_lit 35) g30 g31)) p33 
(oDo (xTurn (tnStore (nat_lit 35) g33 g32)) 
oEnd))))) (oSet (xMove g5) p34 
(oSet (xLook (lkBin .add g34 q14)) p35 
(oSet (xMove g35) p5 
oEnd)))) kSkip)))) (oSet (xMove g6) p20 
(oSet (xLook (lkBin .add g20 q14)) p21 
(oSet (xMove g21) p6 
oEnd)))))))) (kSeq (oSet (xMove g0) p36 
(oSet (xMove g5) p37 
(oSet (xLook (lkSliceSl (nat_lit 35) g36 (some g37) none none)) p38 
(oDo (xTurn (tnClear q71 g38)) 
oEnd)))) (kSeq (oSet (xMove g0) p39 
(oSet (xMove g5) p40 
(oSet (xLook (lkSliceSl (nat_lit 35) g39 none (some g40) none)) p41 
(oSet (xMove g41) p4 
oEnd)))) kRet))))))⟩
noncomputable def k95 : KFun := ⟨[rTmp (nat_lit 3) g3], (kSeq (oSet (xTurn (tnBox g0)) p2 
(oSet (xMove q0) p3 
oEnd)) (kSeq (oSet (xLook (lkLoad1 g1)) p7 
(oSet (xLook (lkFieldAddr (nat_lit 2) g2)) p8 
(oSet (xLook (lkLoadN (nat_lit 32) g8)) p9 
(oSet (xLook (lkLookup (.many (nat_lit 32) .u8) (.agg ⟨[]⟩) true g7 g9)) p10 
(oSet (xMove g10) p6 
(oSet (xLook (lkExtract (nat_lit 0) g6)) p11 
(oSet (xLook (lkExtract (nat_lit 1) g6)) p12 
(oSet (xTurn (tnAlloc [])) p4 
(oDo (xTurn (tnStore (nat_lit 0) g4 g11)) 
(oSet (xMove g12) p5 
oEnd)))))))))) (kSeq (oSet (xMove g5) p13 
(oSet (xLook (lkUn .not g13)) p14 
(oSet (xMove g14) p3 
oEnd))) kRet)))⟩
noncomputable def k96 : KFun := ⟨[rTmp (nat_lit 4) g4], (kSeq (oSet (xTurn (tnBox g1)) p3 
(oSet (xMove q0) p4 
oEnd)) (kSeq (kDraw 
(dLook (nat_lit 0) [] [] (lkMove g0) p8 
(dTurn (nat_lit 1) [] [] false (xNil g8) p9 
(dLook (nat_lit 2) [] [] (lkFieldAddr (nat_lit 1) g9) p10 
(dLook (nat_lit 3) [] [] (lkLoad1 g10) p11 
(dLook (nat_lit 4) [] [] (lkLoadN (nat_lit 32) g3) p12 
(dLook (nat_lit 5) [] [] (lkLookup (.many (nat_lit 32) .u8) (.agg ⟨[]⟩) true g11 g12) p13 
(dLook (nat_lit 6) [] [] (lkMove g13) p7 
(dLook (nat_lit 7) [] [] (lkExtract (nat_lit 0) g7) p14 
(dLook (nat_lit 8) [] [] (lkExtract (nat_lit 1) g7) p15 
(dTurn (nat_lit 9) [] [] false (xTurn (tnAlloc [])) p5 
(dTurn (nat_lit 10) [] [] true (xTurn (tnStore (nat_lit 0) g5 g14)) noDst 
(dLook (nat_lit 11) [] [(nat_lit 10)] (lkMove g15) p6 (dEnd [(nat_lit 8), (nat_lit 9), (nat_lit 10), (nat_lit 11), (nat_lit 12), (nat_lit 13), (nat_lit 7), (nat_lit 14), (nat_lit 15), (nat_lit 5), (nat_lit 6)])))))))))))))) (kSeq (oSet (xMove g6) p16 
(oSet (xMove g16) p4 
oEnd)) kRet)))⟩
noncomputable def k97 : KFun := ⟨[rTmp (nat_lit 4) g4], (kSeq (oSet (xTurn (tnBox g1)) p3 
(oSet (xMove q6) p4 
oEnd)) (kSeq (oSet (xMove g0) p5 
(oSet (xNil g5) p6 
(oSet (xLook (lkFieldAddr (nat_lit 0) g6)) p7 
(oSet (xLook (lkLoad1 g7)) p8 
(oSet (xLook (lkMkFunc (.func (nat_lit 163)) [] [g3])) p9 
(oSet (xCall q125 [g8, g9]) p10 
(oSet (xMove g10) p4 
oEnd))))))) kRet))⟩
def q126 : OpdF := kC (.func (.func (nat_lit 164)) ⟨[]⟩ ⟨[]⟩)
noncomputable def k98 : KFun := ⟨[rTmp (nat_lit 2) g2], (kSeq (oSet (xMove q6) p2 
oEnd) (kSeq (kSeq (oSet (xMove g0) p6 
(oSet (xCall q126 [g6]) p7 
(oSet (xLook (lkEq true .int g7 q6)) p8 
oEnd))) (kCond g8 (kSeq (oSet (xMove q6) p2 
oEnd) kRet) kSkip)) (kSeq (oSet (xMove q6) p3 
oEnd) (kSeq (kSeq (oSet (xMove g0) p9 
(oSet (xLook (lkLen .sl g9)) p10 
(oSet (xMove q6) p11 
oEnd))) (kBlock (nat_lit 0) (kLoop (kSeq (oSet (xLook (lkBin .lss g11 g10)) p12 
oEnd) (kSeq (kCond g12 kSkip (kExit (nat_lit 0))) (kSeq (kBlock (nat_lit 1) (kSeq (oSet (xLook (lkIxSl (nat_lit 2) g9 g11)) p13 
(oSet (xLook (lkLoadN (nat_lit 2) g13)) p14 
(oSet (xTurn (tnAlloc q40)) p5 
(oDo (xTurn (tnStore (nat_lit 2) g5 g14)) 
oEnd)))) (oSet (xMove g3) p15 
(oSet (xLook (lkFieldAddr (nat_lit 1) g5)) p16 
(oSet (xLook (lkLoad1 g16)) p17 
(oSet (xLook (lkBin .add g15 g17)) p18 
(oSet (xMove g18) p3 
oEnd))))))) (oSet (xLook (lkBin .add g11 q14)) p19 
(oSet (xMove g19) p11 
oEnd)))))))) (kSeq (oSet (xMove g3) p20 
(oSet (xMove g20) p2 
oEnd)) kRet)))))⟩
noncomputable def k99 : KFun := ⟨[rTmp (nat_lit 2) g2], (kSeq (oSet (xMove q12) p2 
oEnd) (kSeq (oSet (xMove g0) p9 
(oSet (xNil g9) p10 
(oSet (xLook (lkFieldAddr (nat_lit 2) g10)) p11 
(oSet (xLook (lkLoad1 g11)) p12 
(oSet (xCall q42 [g12]) p13 
(oSet (xLook (lkBin .sub g13 q7)) p14 
(oSet (xLook (lkBuild q40 [((nat_lit 0), (nat_lit 1), q7), ((nat_lit 1), (nat_lit 1), g14)])) p15 
(oSet (xTurn (tnBuildSlice q40 [((nat_lit 0), (nat_lit 2), g15)] (nat_lit 1))) p16 
(oSet (xTurn (tnAlloc q101)) p3 
(oDo (xTurn (tnStore (nat_lit 1) g3 g16)) 
oEnd)))))))))) (kSeq (oSet (xLook (lkMkFunc (.func (nat_lit 165)) [] [g3])) p17 
(oSet (xMove g17) p4 
oEnd)) (kSeq (kSeq (oSet (xMove g0) p18 
(oSet (xNil g18) p19 
(oSet (xLook (lkFieldAddr (nat_lit 38) g19)) p20 
(oSet (xLook (lkLoad1 g20)) p21 
(oSet (xTurn (tnRangeMap g21)) p22 
oEnd))))) (kBlock (nat_lit 0) (kLoop (kSeq (oSet (xNextMap g22) p23 
(oSet (xLook (lkExtract (nat_lit 0) g23)) p24 
oEnd)) (kSeq (kCond g24 kSkip (kExit (nat_lit 0))) (kBlock (nat_lit 1) (kSeq (oSet (xLook (lkEntry g22)) p25 
(oSet (xLook (lkExtract (nat_lit 1) g25)) p26 
(oSet (xTurn (tnAlloc q40)) p6 
(oDo (xTurn (tnStore (nat_lit 2) g6 g26)) 
oEnd)))) (oSet (xMove g4) p27 
(oSet (xLook (lkLoadN (nat_lit 2) g6)) p28 
(oSet (xCall g27 [g28]) p29 
oEnd)))))))))) (kSeq (kSeq (oSet (xMove g0) p30 
(oSet (xNil g30) p31 
(oSet (xLook (lkFieldAddr (nat_lit 0) g31)) p32 
(oSet (xLook (lkFieldAddr (nat_lit 0) g32)) p33 
(oSet (xLook (lkLoad1 g33)) p34 
(oSet (xLook (lkLen .sl g34)) p35 
(oSet (xMove q6) p36 
oEnd))))))) (kBlock (nat_lit 2) (kLoop (kSeq (oSet (xLook (lkBin .lss g36 g35)) p37 
oEnd) (kSeq (kCond g37 kSkip (kExit (nat_lit 2))) (kSeq (kBlock (nat_lit 3) (kSeq (oSet (xLook (lkIxSl (nat_lit 35) g34 g36)) p38 
(oSet (xLook (lkLoadN (nat_lit 35) g38)) p39 
(oSet (xTurn (tnAlloc q71)) p8 
(oDo (xTurn (tnStore (nat_lit 35) g8 g39)) 
oEnd)))) (oSet (xMove g4) p40 
(oSet (xLook (lkFieldAddr (nat_lit 0) g8)) p41 
(oSet (xLook (lkLoadN (nat_lit 2) g41)) p42 
(oSet (xCall g40 [g42]) p43 
oEnd)))))) (oSet (xLook (lkBin .add g36 q14)) p44 
(oSet (xMove g44) p36 
oEnd)))))))) (kSeq (oSet (xMove g4) p45 
(oSet (xMove g0) p46 
(oSet (xNil g46) p47 
(oSet (xLook (lkFieldAddr (nat_lit 36) g47)) p48 
(oSet (xLook (lkLoadN (nat_lit 2) g48)) p49 
(oSet (xCall g45 [g49]) p50 
oEnd)))))) (kSeq (oSet (xLook (lkLoad1 g3)) p51 
(oSet (xMove g51) p2 
oEnd)) kRet)))))))⟩
noncomputable def k100 : KFun := ⟨[rTmp (nat_lit 2) g2], (kSeq (oSet (xMove q12) p2 
oEnd) (kSeq (kSeq (oSet (xMove g0) p3 
(oSet (xLook (lkEq false .slice g3 q12)) p4 
oEnd)) (kCond g4 (kSeq (oSet (xMove q12) p2 
oEnd) kRet) kSkip)) (kSeq (oSet (xTurn (tnBuildSlice [] [] (nat_lit 0))) p5 
(oSet (xMove g0) p6 
(oSet (xTurn (tnAppend (nat_lit 1) g5 g6)) p7 
(oSet (xMove g7) p2 
oEnd)))) kRet)))⟩
def q127 : OpdF := kC (.func (.func (nat_lit 167)) ⟨[]⟩ ⟨[]⟩)
def q128 : OpdF := kC (.func (.func (nat_lit 70)) ⟨[]⟩ ⟨[]⟩)
noncomputable def k101 : KFun := ⟨[rTmp (nat_lit 4) g4], (kSeq (oSet (xMove q12) p4 
oEnd) (kSeq (oSet (xMove g0) p6 
(oSet (xCall q127 [g6]) p7 
(oSet (xMove g7) p5 
oEnd))) (kSeq (oSet (xMove g5) p8 
(oSet (xMove g1) p9 
(oSet (xCall q128 [g8, g9]) p10 
oEnd))) (kSeq (oSet (xMove g5) p11 
(oSet (xMove g11) p4 
oEnd)) kRet))))⟩
def q129 : OpdF := kC .nilFunc
noncomputable def k102 : KFun := ⟨[rTmp (nat_lit 2) g2], (kSeq (oSet (xTurn (tnBox g0)) p1 
(oSet (xMove q129) p2 
oEnd)) (kSeq (oSet (xLook (lkMkFunc (.func (nat_lit 168)) [] [g1])) p3 
(oSet (xMove g3) p2 
oEnd)) kRet))⟩
def q130 : OpdF := kC (.func (.func (nat_lit 72)) ⟨[]⟩ ⟨[]⟩)
noncomputable def k103 : KFun := ⟨[rTmp (nat_lit 4) g4], (kSeq (oSet (xTurn (tnBox g0)) p2 
(oSet (xTurn (tnBox g1)) p3 
(oSet (xMove q6) p4 
oEnd))) (kSeq (kDraw 
(dLook (nat_lit 0) [] [] (lkSliceArr (nat_lit 32) (nat_lit 1) g2 none none none) p5 
(dLook (nat_lit 1) [] [] (lkSliceArr (nat_lit 32) (nat_lit 1) g3 none none none) p6 
(dTurn (nat_lit 2) [] [] true (xCall q130 [g5, g6]) p7 
(dLook (nat_lit 3) [] [(nat_lit 2)] (lkMove g7) p4 (dEnd [(nat_lit 5), (nat_lit 6), (nat_lit 7), (nat_lit 4)])))))) kRet))⟩
noncomputable def k104 : KFun := ⟨[rTmp (nat_lit 2) g2], (kSeq (oSet (xMove q0) p2 
oEnd) (kSeq (oSet (xMove g0) p3 
(oSet (xLook (lkEq false .ptr g3 q3)) p4 
(oSet (xMove g4) p5 
(oSetIf (wantF g5) (xMove g0) p6 
(oSetIf (wantF g5) (xNil g6) p7 
(oSetIf (wantF g5) (xLook (lkFieldAddr (nat_lit 2) g7)) p8 
(oSetIf (wantF g5) (xLook (lkLoad1 g8)) p9 
(oSetIf (wantF g5) (xLook (lkEq false .ptr g9 q3)) p10 
(oSet (xLook (lkPick g5 q13 g10)) p11 
(oSet (xMove g11) p2 
oEnd)))))))))) kRet))⟩
def q131 : OpdF := kC (.int .i64 (.ofNat (nat_lit 12)))
def q132 : OpdF := kC (.func (.func (nat_lit 195)) ⟨[]⟩ ⟨[]⟩)
def q133 : OpdF := kC (.func (.func (nat_lit 196)) ⟨[]⟩ ⟨[]⟩)
def q134 : OpdF := kC (.func (.func (nat_lit 197)) ⟨[]⟩ ⟨[]⟩)
def q135 : OpdF := kC (.func (.func (nat_lit 198)) ⟨[]⟩ ⟨[]⟩)
def q136 : OpdF := kC (.func (.func (nat_lit 199)) ⟨[]⟩ ⟨[]⟩)
def q137 : OpdF := kC (.func (.func (nat_lit 200)) ⟨[]⟩ ⟨[]⟩)
noncomputable def k133d0 : KD := 
(dLook (nat_lit 16) [] [(nat_lit 13)] (lkPick g83 g96 q0) p97 (dEnd [(nat_lit 81), (nat_lit 82), (nat_lit 83), (nat_lit 84), (nat_lit 85), (nat_lit 86), (nat_lit 87), (nat_lit 88), (nat_lit 89), (nat_lit 90), (nat_lit 91), (nat_lit 92), (nat_lit 93), (nat_lit 94), (nat_lit 95), (nat_lit 96), (nat_lit 97)]))
noncomputable def k133d1 : KD := 
(dIf [(nat_lit 13)] (wantT g83) p96 (dLook (nat_lit 15) [] [(nat_lit 13)] (lkUn .not g95) p96 k133d0) k133d0)
noncomputable def k133d2 : KD := 
(dIf [(nat_lit 13)] (wantT g83) p95 (dLook (nat_lit 14) [] [(nat_lit 13)] (lkBin .lss g94 q6) p95 k133d1) k133d1)
noncomputable def k133d3 : KD := 
(dIf [] (wantT g83) p94 (dTurn (nat_lit 13) [] [] true (xCall g84 [g89, g93]) p94 k133d2) k133d2)
noncomputable def k133d4 : KD := 
(dIf [] (wantT g83) p93 (dLook (nat_lit 12) [] [] (lkLoadN (nat_lit 32) g92) p93 k133d3) k133d3)
noncomputable def k133d5 : KD := 
(dIf [] (wantT g83) p92 (dLook (nat_lit 11) [] [] (lkIxSl (nat_lit 32) g90 g91) p92 k133d4) k133d4)
noncomputable def k133d6 : KD := 
(dIf [] (wantT g83) p91 (dLook (nat_lit 10) [] [] (lkMove g13) p91 k133d5) k133d5)
noncomputable def k133d7 : KD := 
(dIf [] (wantT g83) p90 (dLook (nat_lit 9) [] [] (lkMove g0) p90 k133d6) k133d6)
noncomputable def k133d8 : KD := 
(dIf [] (wantT g83) p89 (dLook (nat_lit 8) [] [] (lkLoadN (nat_lit 32) g88) p89 k133d7) k133d7)
noncomputable def k133d9 : KD := 
(dIf [] (wantT g83) p88 (dLook (nat_lit 7) [] [] (lkIxSl (nat_lit 32) g85 g87) p88 k133d8) k133d8)
noncomputable def k133d10 : KD := 
(dIf [] (wantT g83) p87 (dLook (nat_lit 6) [] [] (lkBin .sub g86 q14) p87 k133d9) k133d9)
noncomputable def k133d11 : KD := 
(dIf [] (wantT g83) p86 (dLook (nat_lit 5) [] [] (lkMove g1) p86 k133d10) k133d10)
noncomputable def k133d12 : KD := 
(dIf [] (wantT g83) p85 (dLook (nat_lit 4) [] [] (lkMove g0) p85 k133d11) k133d11)
def q138 : OpdF := kC (.func (.func (nat_lit 201)) ⟨[]⟩ ⟨[]⟩)
def q139 : OpdF := kC (.func (.func (nat_lit 202)) ⟨[]⟩ ⟨[]⟩)
noncomputable def k133 : KFun := ⟨[], (kSeq (oSet (xMove q13) p10 
oEnd) (kSeq (oSet (xMove q13) p11 
oEnd) (kBlock (nat_lit 0) (kLoop (kBlock (nat_lit 1) (kSeq (oSet (xMove g2) p21 
(oSet (xMove g1) p22 
(oSet (xLook (lkBin .sub g21 g22)) p23 
(oSet (xMove g23) p12 
oEnd)))) (kSeq (kSeq (oSet (xMove g12) p24 
(oSet (xLook (lkBin .leq g24 q131)) p25 
oEnd)) (kCond g25 (kSeq (oSet (xMove g0) p26 
(oSet (xMove g1) p27 
(oSet (xMove g2) p28 
(oSet (xMove g4) p29 
(oSet (xCall q132 [g26, g27, g28, g29]) p30 
oEnd))))) kRet) kSkip)) (kSeq (kSeq (oSet (xMove g3) p31 
(oSet (xLook (lkEq false .int g31 q6)) p32 
oEnd)) (kCond g32 (kSeq (oSet (xMove g0) p33 
(oSet (xMove g1) p34 
(oSet (xMove g2) p35 
(oSet (xMove g4) p36 
(oSet (xCall q133 [g33, g34, g35, g36]) p37 
oEnd))))) kRet) kSkip)) (kSeq (kSeq (oSet (xMove g10) p38 
(oSet (xLook (lkUn .not g38)) p39 
oEnd)) (kCond g39 (kSeq (oSet (xMove g0) p40 
(oSet (xMove g1) p41 
(oSet (xMove g2) p42 
(oSet (xMove g4) p43 
(oSet (xCall q134 [g40, g41, g42, g43]) p44 
oEnd))))) (oSet (xMove g3) p45 
(oSet (xLook (lkBin .sub g45 q14)) p46 
(oSet (xMove g46) p3 
oEnd)))) kSkip)) (kSeq (oSet (xMove g0) p48 
(oSet (xMove g1) p49 
(oSet (xMove g2) p50 
(oSet (xMove g4) p51 
(oSet (xCall q135 [g48, g49, g50, g51]) p52 
(oSet (xMove g52) p47 
(oSet (xLook (lkExtract (nat_lit 0) g47)) p53 
(oSet (xLook (lkExtract (nat_lit 1) g47)) p54 
(oSet (xMove g53) p13 
(oSet (xMove g54) p14 
oEnd)))))))))) (kSeq (kSeq (oSet (xMove g14) p55 
(oSet (xLook (lkEq false .int g55 q7)) p56 
oEnd)) (kCond g56 (kSeq (oSet (xMove g0) p57 
(oSet (xMove g1) p58 
(oSet (xMove g2) p59 
(oSet (xMove g4) p60 
(oSet (xCall q136 [g57, g58, g59, g60]) p61 
oEnd))))) (kSeq (oSet (xMove g2) p62 
(oSet (xLook (lkBin .sub g62 q14)) p63 
(oSet (xMove g13) p64 
(oSet (xMove g1) p65 
(oSet (xLook (lkBin .sub g64 g65)) p66 
(oSet (xLook (lkBin .sub g63 g66)) p67 
(oSet (xMove g67) p13 
oEnd))))))) (oSet (xMove q14) p14 
oEnd))) kSkip)) (kSeq (kSeq (oSet (xMove g10) p68 
(oSet (xMove g68) p69 
(oSetIf (wantT g69) (xMove g11) p70 
(oSet (xLook (lkPick g69 g70 q0)) p71 
(oSet (xMove g71) p72 
(oSetIf (wantT g72) (xMove g14) p73 
(oSetIf (wantT g72) (xLook (lkEq false .int g73 q14)) p74 
(oSet (xLook (lkPick g72 g74 q0)) p75 
oEnd)))))))) (kCond g75 (kSeq (oSet (xMove g0) p76 
(oSet (xMove g1) p77 
(oSet (xMove g2) p78 
(oSet (xMove g4) p79 
(oSet (xCall q137 [g76, g77, g78, g79]) p80 
oEnd))))) (kCond g80 kRet kSkip)) kSkip)) (kSeq (kSeq (kDraw 
(dLook (nat_lit 0) [] [] (lkMove g1) p81 
(dLook (nat_lit 1) [] [] (lkBin .gtr g81 q6) p82 
(dLook (nat_lit 2) [] [] (lkMove g82) p83 
(dIf [] (wantT g83) p84 (dLook (nat_lit 3) [] [] (lkMove g4) p84 k133d12) k133d12))))) (kCond g97 (kSeq (oSet (xMove g0) p98 
(oSet (xMove g1) p99 
(oSet (xMove g2) p100 
(oSet (xMove g13) p101 
(oSet (xMove g4) p102 
(oSet (xCall q138 [g98, g99, g100, g101, g102]) p103 
(oSet (xMove g103) p15 
oEnd))))))) (kSeq (oSet (xMove g15) p104 
(oSet (xMove g104) p1 
oEnd)) (kExit (nat_lit 1)))) kSkip)) (kSeq (oSet (xMove g0) p106 
(oSet (xMove g1) p107 
(oSet (xMove g2) p108 
(oSet (xMove g13) p109 
(oSet (xMove g4) p110 
(oSet (xCall q139 [g106, g107, g108, g109, g110]) p111 
(oSet (xMove g111) p105 
(oSet (xLook (lkExtract (nat_lit 0) g105)) p112 
(oSet (xLook (lkExtract (nat_lit 1) g105)) p113 
(oSet (xMove g112) p16 
(oSet (xMove g113) p17 
oEnd))))))))))) (kSeq (oSet (xMove g17) p114 
(oSet (xMove g114) p11 
oEnd)) (kSeq (oSet (xMove g16) p115 
(oSet (xMove g1) p116 
(oSet (xLook (lkBin .sub g115 g116)) p117 
(oSet (xMove g2) p118 
(oSet (xMove g16) p119 
(oSet (xLook (lkBin .sub g118 g119)) p120 
(oSet (xMove g117) p18 
(oSet (xMove g120) p19 
oEnd)))))))) (kSeq (oSet (xMove g12) p121 
(oSet (xLook (lkBin .quo g121 q44)) p122 
(oSet (xMove g122) p20 
oEnd))) (kSeq (oSet (xMove g18) p123 
(oSet (xMove g19) p124 
(oSet (xLook (lkBin .lss g123 g124)) p125 
oEnd))) (kCond g125 (kSeq (oSet (xMove g18) p126 
(oSet (xMove g20) p127 
(oSet (xLook (lkBin .geq g126 g127)) p128 
(oSet (xMove g128) p10 
oEnd)))) (kSeq (oSet (xMove g0) p129 
(oSet (xMove g1) p130 
(oSet (xMove g16) p131 
(oSet (xMove g3) p132 
(oSet (xMove g4) p133 
(oSet (xCall q81 [g129, g130, g131, g132, g133]) p134 
oEnd)))))) (oSet (xMove g16) p135 
(oSet (xLook (lkBin .add g135 q14)) p136 
(oSet (xMove g136) p1 
oEnd))))) (kSeq (oSet (xMove g19) p137 
(oSet (xMove g20) p138 
(oSet (xLook (lkBin .geq g137 g138)) p139 
(oSet (xMove g139) p10 
oEnd)))) (kSeq (oSet (xMove g0) p140 
(oSet (xMove g16) p141 
(oSet (xLook (lkBin .add g141 q14)) p142 
(oSet (xMove g2) p143 
(oSet (xMove g3) p144 
(oSet (xMove g4) p145 
(oSet (xCall q81 [g140, g142, g143, g144, g145]) p146 
oEnd))))))) (oSet (xMove g16) p147 
(oSet (xMove g147) p2 
oEnd)))))))))))))))))))))))⟩
def q140 : OpdF := kC (.func (.func (nat_lit 203)) ⟨[]⟩ ⟨[]⟩)
def q141 : OpdF := kC (.func (.func (nat_lit 204)) ⟨[]⟩ ⟨[]⟩)
noncomputable def k134 : KFun := ⟨[rTmp (nat_lit 2) g2], (kSeq (oSet (xMove q6) p2 
oEnd) (kSeq (kCond q0 (kSeq (oSet (xMove g0) p3 
(oSet (xLook (lkIntTo .u32 g3)) p4 
(oSet (xCall q140 [g4]) p5 
(oSet (xMove g5) p2 
oEnd)))) kRet) kSkip) (kSeq (oSet (xMove g0) p6 
(oSet (xCall q141 [g6]) p7 
(oSet (xMove g7) p2 
oEnd))) kRet)))⟩
def q142 : List Value := [(.int .u32 (.ofNat (nat_lit 0))), (.int .u32 (.ofNat (nat_lit 0))), (.int .u32 (.ofNat (nat_lit 0))), (.int .u32 (.ofNat (nat_lit 0))), (.int .u32 (.ofNat (nat_lit 0))), (.int .u32 (.ofNat (nat_lit 0))), (.int .u32 (.ofNat (nat_lit 0))), (.int .u32 (.ofNat (nat_lit 0)))]
def q143 : OpdF := kC (.int .u32 (.ofNat (nat_lit 1779033703)))
def q144 : OpdF := kC (.int .u32 (.ofNat (nat_lit 3144134277)))
def q145 : OpdF := kC (.int .u32 (.ofNat (nat_lit 1013904242)))
def q146 : OpdF := kC (.int .u32 (.ofNat (nat_lit 2773480762)))
def q147 : OpdF := kC (.int .u32 (.ofNat (nat_lit 1359893119)))
def q148 : OpdF := kC (.int .u32 (.ofNat (nat_lit 2600822924)))
def q149 : OpdF := kC (.int .u32 (.ofNat (nat_lit 528734635)))
def q150 : OpdF := kC (.int .u32 (.ofNat (nat_lit 1541459225)))
noncomputable def k138 : KFun := ⟨[rCellN (nat_lit 0) g0 (nat_lit 8)], (kSeq (oSet (xTurn (tnAlloc q142)) p0 
oEnd) (kSeq (oSet (xLook (lkBuild q142 [((nat_lit 0), (nat_lit 1), q143), ((nat_lit 1), (nat_lit 1), q144), ((nat_lit 2), (nat_lit 1), q145), ((nat_lit 3), (nat_lit 1), q146), ((nat_lit 4), (nat_lit 1), q147), ((nat_lit 5), (nat_lit 1), q148), ((nat_lit 6), (nat_lit 1), q149), ((nat_lit 7), (nat_lit 1), q150)])) p1 
(oDo (xTurn (tnStore (nat_lit 8) g0 g1)) 
oEnd)) kRet))⟩
noncomputable def k139 : KFun := ⟨[rTmp (nat_lit 2) g2], (kSeq (oSet (xMove q0) p2 
oEnd) (kSeq (oSet (xMove g0) p3 
(oSet (xLook (lkEq false .ptr g3 q3)) p4 
(oSet (xMove g4) p5 
(oSetIf (wantF g5) (xMove g0) p6 
(oSetIf (wantF g5) (xNil g6) p7 
(oSetIf (wantF g5) (xLook (lkFieldAddr (nat_lit 0) g7)) p8 
(oSetIf (wantF g5) (xLook (lkLoad1 g8)) p9 
(oSetIf (wantF g5) (xLook (lkUn .not g9)) p10 
(oSet (xLook (lkPick g5 q13 g10)) p11 
(oSet (xMove g11) p2 
oEnd)))))))))) kRet))⟩
def q151 : List Value := [(.int .u32 (.ofNat (nat_lit 0))), (.int .u32 (.ofNat (nat_lit 0))), (.int .u32 (.ofNat (nat_lit 0))), (.int .u32 (.ofNat (nat_lit 0))), (.int .u32 (.ofNat (nat_lit 0))), (.int .u32 (.ofNat (nat_lit 0))), (.int .u32 (.ofNat (nat_lit 0))), (.int .u32 (.ofNat (nat_lit 0))), (.int .u32 (.ofNat (nat_lit 0))), (.int .u32 (.ofNat (nat_lit 0))), (.int .u32 (.ofNat (nat_lit 0))), (.int .u32 (.ofNat (nat_lit 0))), (.int .u32 (.ofNat (nat_lit 0))), (.int .u32 (.ofNat (nat_lit 0))), (.int .u32 (.ofNat (nat_lit 0))), (.int .u32 (.ofNat (nat_lit 0))), (.int .u32 (.ofNat (nat_lit 0))), (.int .u32 (.ofNat (nat_lit 0))), (.int .u32 (.ofNat (nat_lit 0))), (.int .u32 (.ofNat (nat_lit 0))), (.int .u32 (.ofNat (nat_lit 0))), (.int .u32 (.ofNat (nat_lit 0))), (.int .u32 (.ofNat (nat_lit 0))), (.int .u32 (.ofNat (nat_lit 0))), (.int .u32 (.ofNat (nat_lit 0))), (.int .u32 (.ofNat (nat_lit 0))), (.int .u32 (.ofNat (nat_lit 0))), (.int .u32 (.ofNat (nat_lit 0))), (.int .u32 (.ofNat (nat_lit 0))), (.int .u32 (.ofNat (nat_lit 0))), (.int .u32 (.ofNat (nat_lit 0))), (.int .u32 (.ofNat (nat_lit 0))), (.int .u32 (.ofNat (nat_lit 0))), (.int .u32 (.ofNat (nat_lit 0))), (.int .u32 (.ofNat (nat_lit 0))), (.int .u32 (.ofNat (nat_lit 0))), (.int .u32 (.ofNat (nat_lit 0))), (.int .u32 (.ofNat (nat_lit 0))), (.int .u32 (.ofNat (nat_lit 0))), (.int .u32 (.ofNat (nat_lit 0))), (.int .u32 (.ofNat (nat_lit 0))), (.int .u32 (.ofNat (nat_lit 0))), (.int .u32 (.ofNat (nat_lit 0))), (.int .u32 (.ofNat (nat_lit 0))), (.int .u32 (.ofNat (nat_lit 0))), (.int .u32 (.ofNat (nat_lit 0))), (.int .u32 (.ofNat (nat_lit 0))), (.int .u32 (.ofNat (nat_lit 0))), (.int .u32 (.ofNat (nat_lit 0))), (.int .u32 (.ofNat (nat_lit 0))), (.int .u32 (.ofNat (nat_lit 0))), (.int .u32 (.ofNat (nat_lit 0))), (.int .u32 (.ofNat (nat_lit 0))), (.int .u32 (.ofNat (nat_lit 0))), (.int .u32 (.ofNat (nat_lit 0))), (.int .u32 (.ofNat (nat_lit 0))), (.int .u32 (.ofNat (nat_lit 0))), (.int .u32 (.ofNat (nat_lit 0))), (.int .u32 (.ofNat (nat_lit 0))), (.int .u32 (.ofNat (nat_lit 0))), (.int .u32 (.ofNat (nat_lit 0))), (.int .u32 (.ofNat (nat_lit 0))), (.int .u32 (.ofNat (nat_lit 0))), (.int .u32 (.ofNat (nat_lit 0)))]
def q152 : OpdF := kC (.int .u64 (.ofNat (nat_lit 16)))
def q153 : OpdF := kC (.int .u64 (.ofNat (nat_lit 24)))
def q154 : OpdF := kC (.int .i64 (.ofNat (nat_lit 15)))
def q155 : OpdF := kC (.int .u64 (.ofNat (nat_lit 10)))
def q156 : OpdF := kC (.func (.func (nat_lit 205)) ⟨[]⟩ ⟨[]⟩)
def q157 : OpdF := kC (.int .i64 (.ofNat (nat_lit 19)))
def q158 : OpdF := kC (.int .i64 (.ofNat (nat_lit 17)))
def q159 : OpdF := kC (.int .i64 (.ofNat (nat_lit 7)))
def q160 : OpdF := kC (.int .u64 (.ofNat (nat_lit 3)))
def q161 : OpdF := kC (.int .i64 (.ofNat (nat_lit 18)))
def q162 : OpdF := kC (.func (.func (nat_lit 206)) ⟨[]⟩ ⟨[]⟩)
def q163 : OpdF := kC (.int .i64 (.ofNat (nat_lit 25)))
def q164 : OpdF := kC (.int .i64 (.ofNat (nat_lit 22)))
noncomputable def k140 : KFun := ⟨[rCellN (nat_lit 4) g4 (nat_lit 8)], (kSeq (oSet (xTurn (tnBox g0)) p2 
(oSet (xTurn (tnAlloc q142)) p4 
oEnd)) (kSeq (oSet (xTurn (tnAlloc q151)) p5 
oEnd) (kSeq (kSeq (oSet (xMove q6) p23 
oEnd) (kBlock (nat_lit 0) (kLoop (kSeq (oSet (xLook (lkBin .lss g23 q59)) p24 
oEnd) (kSeq (kCond g24 kSkip (kExit (nat_lit 0))) (kSeq (kBlock (nat_lit 1) (kSeq (oSet (xMove g23) p25 
(oSet (xMove g25) p6 
oEnd)) (kDraw 
(dLook (nat_lit 0) [] [] (lkMove g6) p26 
(dLook (nat_lit 1) [] [] (lkMove g1) p27 
(dLook (nat_lit 2) [] [] (lkMove g6) p28 
(dLook (nat_lit 3) [] [] (lkBin .mul q43 g28) p29 
(dLook (nat_lit 4) [] [] (lkIxSl (nat_lit 1) g27 g29) p30 
(dLook (nat_lit 5) [] [] (lkLoad1 g30) p31 
(dLook (nat_lit 6) [] [] (lkIntTo .u32 g31) p32 
(dLook (nat_lit 7) [] [] (lkBin .shl g32 q153) p33 
(dLook (nat_lit 8) [] [] (lkMove g1) p34 
(dLook (nat_lit 9) [] [] (lkMove g6) p35 
(dLook (nat_lit 10) [] [] (lkBin .mul q43 g35) p36 
(dLook (nat_lit 11) [] [] (lkBin .add g36 q14) p37 
(dLook (nat_lit 12) [] [] (lkIxSl (nat_lit 1) g34 g37) p38 
(dLook (nat_lit 13) [] [] (lkLoad1 g38) p39 
(dLook (nat_lit 14) [] [] (lkIntTo .u32 g39) p40 
(dLook (nat_lit 15) [] [] (lkBin .shl g40 q152) p41 
(dLook (nat_lit 16) [] [] (lkBin .or g33 g41) p42 
(dLook (nat_lit 17) [] [] (lkMove g1) p43 
(dLook (nat_lit 18) [] [] (lkMove g6) p44 
(dLook (nat_lit 19) [] [] (lkBin .mul q43 g44) p45 
(dLook (nat_lit 20) [] [] (lkBin .add g45 q7) p46 
(dLook (nat_lit 21) [] [] (lkIxSl (nat_lit 1) g43 g46) p47 
(dLook (nat_lit 22) [] [] (lkLoad1 g47) p48 
(dLook (nat_lit 23) [] [] (lkIntTo .u32 g48) p49 
(dLook (nat_lit 24) [] [] (lkBin .shl g49 q91) p50 
(dLook (nat_lit 25) [] [] (lkBin .or g42 g50) p51 
(dLook (nat_lit 26) [] [] (lkMove g1) p52 
(dLook (nat_lit 27) [] [] (lkMove g6) p53 
(dLook (nat_lit 28) [] [] (lkBin .mul q43 g53) p54 
(dLook (nat_lit 29) [] [] (lkBin .add g54 q69) p55 
(dLook (nat_lit 30) [] [] (lkIxSl (nat_lit 1) g52 g55) p56 
(dLook (nat_lit 31) [] [] (lkLoad1 g56) p57 
(dLook (nat_lit 32) [] [] (lkIntTo .u32 g57) p58 
(dLook (nat_lit 33) [] [] (lkBin .or g51 g58) p59 
(dLook (nat_lit 34) [] [] (lkIxArr (nat_lit 64) (nat_lit 1) g5 g26) p60 
(dTurn (nat_lit 35) [] [] true (xTurn (tnStore (nat_lit 1) g60 g59)) noDst (dEnd [(nat_lit 26), (nat_lit 27), (nat_lit 28), (nat_lit 29), (nat_lit 30), (nat_lit 31), (nat_lit 32), (nat_lit 33), (nat_lit 34), (nat_lit 35), (nat_lit 36), (nat_lit 37), (nat_lit 38), (nat_lit 39), (nat_lit 40), (nat_lit 41), (nat_lit 42), (nat_lit 43), (nat_lit 44), (nat_lit 45), (nat_lit 46), (nat_lit 47), (nat_lit 48), (nat_lit 49), (nat_lit 50), (nat_lit 51), (nat_lit 52), (nat_lit 53), (nat_lit 54), (nat_lit 55), (nat_lit 56), (nat_lit 57), (nat_lit 58), (nat_lit 59), (nat_lit 60)])))))))))))))))))))))))))))))))))))))))) (oSet (xLook (lkBin .add g23 q14)) p61 
(oSet (xMove g61) p23 
oEnd)))))))) (kSeq (kSeq (oSet (xMove q59) p7 
oEnd) (kBlock (nat_lit 2) (kLoop (kSeq (kSeq (oSet (xMove g7) p62 
(oSet (xLook (lkBin .lss g62 q86)) p63 
oEnd)) (kCond g63 kSkip (kExit (nat_lit 2)))) (kSeq (kBlock (nat_lit 3) (kSeq (kDraw 
(dLook (nat_lit 0) [] [] (lkMove g7) p66 
(dLook (nat_lit 1) [] [] (lkBin .sub g66 q154) p67 
(dLook (nat_lit 2) [] [] (lkIxArr (nat_lit 64) (nat_lit 1) g5 g67) p68 
(dLook (nat_lit 3) [] [] (lkLoad1 g68) p69 
(dLook (nat_lit 4) [] [] (lkMove g7) p70 
(dLook (nat_lit 5) [] [] (lkBin .sub g70 q7) p71 
(dLook (nat_lit 6) [] [] (lkIxArr (nat_lit 64) (nat_lit 1) g5 g71) p72 
(dLook (nat_lit 7) [] [] (lkLoad1 g72) p73 
(dLook (nat_lit 8) [] [] (lkMove g69) p8 
(dLook (nat_lit 9) [] [] (lkMove g73) p9 (dEnd [(nat_lit 66), (nat_lit 67), (nat_lit 68), (nat_lit 69), (nat_lit 70), (nat_lit 71), (nat_lit 72), (nat_lit 73), (nat_lit 8), (nat_lit 9)])))))))))))) (kDraw 
(dLook (nat_lit 0) [] [] (lkMove g7) p74 
(dLook (nat_lit 1) [] [] (lkMove g7) p75 
(dLook (nat_lit 2) [] [] (lkBin .sub g75 q59) p76 
(dLook (nat_lit 3) [] [] (lkIxArr (nat_lit 64) (nat_lit 1) g5 g76) p77 
(dLook (nat_lit 4) [] [] (lkLoad1 g77) p78 
(dLook (nat_lit 5) [] [] (lkMove g8) p79 
(dTurn (nat_lit 6) [(nat_lit 4)] [] true (xCall q156 [g79, q159]) p80 
(dLook (nat_lit 7) [] [] (lkMove g8) p81 
(dTurn (nat_lit 8) [(nat_lit 4)] [(nat_lit 6)] true (xCall q156 [g81, q161]) p82 
(dLook (nat_lit 9) [] [(nat_lit 6), (nat_lit 8)] (lkBin .xor g80 g82) p83 
(dLook (nat_lit 10) [] [] (lkMove g8) p84 
(dLook (nat_lit 11) [] [] (lkBin .shr g84 q160) p85 
(dLook (nat_lit 12) [] [(nat_lit 6), (nat_lit 8)] (lkBin .xor g83 g85) p86 
(dLook (nat_lit 13) [] [(nat_lit 6), (nat_lit 8)] (lkBin .add g78 g86) p87 
(dLook (nat_lit 14) [] [] (lkMove g7) p88 
(dLook (nat_lit 15) [] [] (lkBin .sub g88 q159) p89 
(dLook (nat_lit 16) [] [] (lkIxArr (nat_lit 64) (nat_lit 1) g5 g89) p90 
(dLook (nat_lit 17) [(nat_lit 6), (nat_lit 8)] [] (lkLoad1 g90) p91 
(dLook (nat_lit 18) [] [(nat_lit 6), (nat_lit 8)] (lkBin .add g87 g91) p92 
(dLook (nat_lit 19) [] [] (lkMove g9) p93 
(dTurn (nat_lit 20) [(nat_lit 4), (nat_lit 17)] [(nat_lit 6), (nat_lit 8)] true (xCall q156 [g93, q158]) p94 
(dLook (nat_lit 21) [] [] (lkMove g9) p95 
(dTurn (nat_lit 22) [(nat_lit 4), (nat_lit 17)] [(nat_lit 6), (nat_lit 8), (nat_lit 20)] true (xCall q156 [g95, q157]) p96 
(dLook (nat_lit 23) [] [(nat_lit 6), (nat_lit 8), (nat_lit 20), (nat_lit 22)] (lkBin .xor g94 g96) p97 
(dLook (nat_lit 24) [] [] (lkMove g9) p98 
(dLook (nat_lit 25) [] [] (lkBin .shr g98 q155) p99 
(dLook (nat_lit 26) [] [(nat_lit 6), (nat_lit 8), (nat_lit 20), (nat_lit 22)] (lkBin .xor g97 g99) p100 
(dLook (nat_lit 27) [] [(nat_lit 6), (nat_lit 8), (nat_lit 20), (nat_lit 22)] (lkBin .add g92 g100) p101 
(dLook (nat_lit 28) [] [(nat_lit 6), (nat_lit 8), (nat_lit 20), (nat_lit 22)] (lkIxArr (nat_lit 64) (nat_lit 1) g5 g74) p102 
(dTurn (nat_lit 29) [] [(nat_lit 6), (nat_lit 8), (nat_lit 20), (nat_lit 22)] true (xTurn (tnStore (nat_lit 1) g102 g101)) noDst (dEnd [(nat_lit 74), (nat_lit 75), (nat_lit 76), (nat_lit 77), (nat_lit 78), (nat_lit 79), (nat_lit 80), (nat_lit 81), (nat_lit 82), (nat_lit 83), (nat_lit 84), (nat_lit 85), (nat_lit 86), (nat_lit 87), (nat_lit 88), (nat_lit 89), (nat_lit 90), (nat_lit 91), (nat_lit 92), (nat_lit 93), (nat_lit 94), (nat_lit 95), (nat_lit 96), (nat_lit 97), (nat_lit 98), (nat_lit 99), (nat_lit 100), (nat_lit 101), (nat_lit 102)])))))))))))))))))))))))))))))))))) (oSet (xMove g7) p64 
(oSet (xLook (lkBin .add g64 q14)) p65 
(oSet (xMove g65) p7 
oEnd)))))))) (kSeq (oSet (xLook (lkLoadN (nat_lit 8) g2)) p103 
(oSet (xTurn (tnAlloc q142)) p10 
(oDo (xTurn (tnStore (nat_lit 8) g10 g103)) 
oEnd))) (kSeq (kSeq (oSet (xCall q162 []) p104 
(oSet (xMove q6) p105 
oEnd)) (kBlock (nat_lit 4) (kLoop (kSeq (oSet (xLook (lkBin .lss g105 q86)) p106 
oEnd) (kSeq (kCond g106 kSkip (kExit (nat_lit 4))) (kSeq (kBlock (nat_lit 5) (kSeq (oSet (xMove g105) p107 
(oSet (xLook (lkIxVal1 (nat_lit 64) g104 g105)) p108 
(oSet (xMove g107) p11 
(oSet (xMove g108) p12 
oEnd)))) (kSeq (kDraw 
(dLook (nat_lit 0) [] [] (lkIxArr (nat_lit 8) (nat_lit 1) g10 q6) p109 
(dLook (nat_lit 1) [] [] (lkLoad1 g109) p110 
(dLook (nat_lit 2) [] [] (lkIxArr (nat_lit 8) (nat_lit 1) g10 q14) p111 
(dLook (nat_lit 3) [] [] (lkLoad1 g111) p112 
(dLook (nat_lit 4) [] [] (lkIxArr (nat_lit 8) (nat_lit 1) g10 q7) p113 
(dLook (nat_lit 5) [] [] (lkLoad1 g113) p114 
(dLook (nat_lit 6) [] [] (lkIxArr (nat_lit 8) (nat_lit 1) g10 q43) p115 
(dLook (nat_lit 7) [] [] (lkLoad1 g115) p116 
(dLook (nat_lit 8) [] [] (lkIxArr (nat_lit 8) (nat_lit 1) g10 q77) p117 
(dLook (nat_lit 9) [] [] (lkLoad1 g117) p118 
(dLook (nat_lit 10) [] [] (lkIxArr (nat_lit 8) (nat_lit 1) g10 q31) p119 
(dLook (nat_lit 11) [] [] (lkLoad1 g119) p120 
(dLook (nat_lit 12) [] [] (lkIxArr (nat_lit 8) (nat_lit 1) g10 q159) p121 
(dLook (nat_lit 13) [] [] (lkLoad1 g121) p122 
(dLook (nat_lit 14) [] [] (lkMove g110) p13 
(dLook (nat_lit 15) [] [] (lkMove g112) p14 
(dLook (nat_lit 16) [] [] (lkMove g114) p15 
(dLook (nat_lit 17) [] [] (lkMove g116) p16 
(dLook (nat_lit 18) [] [] (lkMove g118) p17 
(dLook (nat_lit 19) [] [] (lkMove g120) p18 
(dLook (nat_lit 20) [] [] (lkMove g122) p19 (dEnd [(nat_lit 109), (nat_lit 110), (nat_lit 111), (nat_lit 112), (nat_lit 113), (nat_lit 114), (nat_lit 115), (nat_lit 116), (nat_lit 117), (nat_lit 118), (nat_lit 119), (nat_lit 120), (nat_lit 121), (nat_lit 122), (nat_lit 13), (nat_lit 14), (nat_lit 15), (nat_lit 16), (nat_lit 17), (nat_lit 18), (nat_lit 19)]))))))))))))))))))))))) (kSeq (kDraw 
(dLook (nat_lit 0) [] [] (lkMove g19) p123 
(dLook (nat_lit 1) [] [] (lkMove g16) p124 
(dTurn (nat_lit 2) [] [] true (xCall q156 [g124, q31]) p125 
(dLook (nat_lit 3) [] [] (lkMove g16) p126 
(dTurn (nat_lit 4) [] [(nat_lit 2)] true (xCall q156 [g126, q47]) p127 
(dLook (nat_lit 5) [] [(nat_lit 2), (nat_lit 4)] (lkBin .xor g125 g127) p128 
(dLook (nat_lit 6) [] [] (lkMove g16) p129 
(dTurn (nat_lit 7) [] [(nat_lit 2), (nat_lit 4)] true (xCall q156 [g129, q163]) p130 
(dLook (nat_lit 8) [] [(nat_lit 2), (nat_lit 4), (nat_lit 7)] (lkBin .xor g128 g130) p131 
(dLook (nat_lit 9) [] [(nat_lit 2), (nat_lit 4), (nat_lit 7)] (lkBin .add g123 g131) p132 
(dLook (nat_lit 10) [] [] (lkMove g16) p133 
(dLook (nat_lit 11) [] [] (lkMove g17) p134 
(dLook (nat_lit 12) [] [] (lkBin .and g133 g134) p135 
(dLook (nat_lit 13) [] [] (lkMove g16) p136 
(dLook (nat_lit 14) [] [] (lkUn .xor g136) p137 
(dLook (nat_lit 15) [] [] (lkMove g18) p138 
(dLook (nat_lit 16) [] [] (lkBin .and g137 g138) p139 
(dLook (nat_lit 17) [] [] (lkBin .xor g135 g139) p140 
(dLook (nat_lit 18) [] [(nat_lit 2), (nat_lit 4), (nat_lit 7)] (lkBin .add g132 g140) p141 
(dLook (nat_lit 19) [] [] (lkMove g12) p142 
(dLook (nat_lit 20) [] [(nat_lit 2), (nat_lit 4), (nat_lit 7)] (lkBin .add g141 g142) p143 
(dLook (nat_lit 21) [] [] (lkMove g11) p144 
(dLook (nat_lit 22) [] [] (lkIxArr (nat_lit 64) (nat_lit 1) g5 g144) p145 
(dLook (nat_lit 23) [(nat_lit 2), (nat_lit 4), (nat_lit 7)] [] (lkLoad1 g145) p146 
(dLook (nat_lit 24) [] [(nat_lit 2), (nat_lit 4), (nat_lit 7)] (lkBin .add g143 g146) p147 
(dLook (nat_lit 25) [] [(nat_lit 2), (nat_lit 4), (nat_lit 7)] (lkMove g147) p20 (dEnd [(nat_lit 123), (nat_lit 124), (nat_lit 125), (nat_lit 126), (nat_lit 127), (nat_lit 128), (nat_lit 129), (nat_lit 130), (nat_lit 131), (nat_lit 132), (nat_lit 133), (nat_lit 134), (nat_lit 135), (nat_lit 136), (nat_lit 137), (nat_lit 138), (nat_lit 139), (nat_lit 140), (nat_lit 141), (nat_lit 142), (nat_lit 143), (nat_lit 144), (nat_lit 145), (nat_lit 146), (nat_lit 147), (nat_lit 20)])))))))))))))))))))))))))))) (kSeq (oSet (xMove g13) p148 
(oSet (xCall q156 [g148, q7]) p149 
(oSet (xMove g13) p150 
(oSet (xCall q156 [g150, q66]) p151 
(oSet (xLook (lkBin .xor g149 g151)) p152 
(oSet (xMove g13) p153 
(oSet (xCall q156 [g153, q164]) p154 
(oSet (xLook (lkBin .xor g152 g154)) p155 
(oSet (xMove g13) p156 
(oSet (xMove g14) p157 
(oSet (xLook (lkBin .and g156 g157)) p158 
(oSet (xMove g13) p159 
(oSet (xMove g15) p160 
(oSet (xLook (lkBin .and g159 g160)) p161 
(oSet (xLook (lkBin .xor g158 g161)) p162 
(oSet (xMove g14) p163 
(oSet (xMove g15) p164 
(oSet (xLook (lkBin .and g163 g164)) p165 
(oSet (xLook (lkBin .xor g162 g165)) p166 
(oSet (xLook (lkBin .add g155 g166)) p167 
(oSet (xMove g167) p21 
oEnd))))))))))))))))))))) (oSet (xMove g20) p168 
(oSet (xMove g21) p169 
(oSet (xLook (lkBin .add g168 g169)) p170 
(oSet (xMove g13) p171 
(oSet (xMove g14) p172 
(oSet (xMove g15) p173 
(oSet (xLook (lkIxArr (nat_lit 8) (nat_lit 1) g10 q69)) p174 
(oSet (xLook (lkLoad1 g174)) p175 
(oSet (xMove g20) p176 
(oSet (xLook (lkBin .add g175 g176)) p177 
(oSet (xMove g16) p178 
(oSet (xMove g17) p179 
(oSet (xMove g18) p180 
(oSet (xLook (lkBuild q142 [((nat_lit 0), (nat_lit 1), g170), ((nat_lit 1), (nat_lit 1), g171), ((nat_lit 2), (nat_lit 1), g172), ((nat_lit 3), (nat_lit 1), g173), ((nat_lit 4), (nat_lit 1), g177), ((nat_lit 5), (nat_lit 1), g178), ((nat_lit 6), (nat_lit 1), g179), ((nat_lit 7), (nat_lit 1), g180)])) p181 
(oDo (xTurn (tnStore (nat_lit 8) g10 g181)) 
oEnd)))))))))))))))))))) (oSet (xLook (lkBin .add g105 q14)) p182 
(oSet (xMove g182) p105 
oEnd)))))))) (kSeq (kSeq (oSet (xMove q6) p183 
oEnd) (kBlock (nat_lit 6) (kLoop (kSeq (oSet (xLook (lkBin .lss g183 q44)) p184 
oEnd) (kSeq (kCond g184 kSkip (kExit (nat_lit 6))) (kSeq (kBlock (nat_lit 7) (kSeq (oSet (xMove g183) p185 
(oSet (xMove g185) p22 
oEnd)) (kDraw 
(dLook (nat_lit 0) [] [] (lkMove g22) p186 
(dLook (nat_lit 1) [] [] (lkIxArr (nat_lit 8) (nat_lit 1) g2 g186) p187 
(dLook (nat_lit 2) [] [] (lkLoad1 g187) p188 
(dLook (nat_lit 3) [] [] (lkMove g22) p189 
(dLook (nat_lit 4) [] [] (lkIxArr (nat_lit 8) (nat_lit 1) g10 g189) p190 
(dLook (nat_lit 5) [] [] (lkLoad1 g190) p191 
(dLook (nat_lit 6) [] [] (lkBin .add g188 g191) p192 
(dLook (nat_lit 7) [] [] (lkIxArr (nat_lit 8) (nat_lit 1) g2 g186) p193 
(dTurn (nat_lit 8) [] [] true (xTurn (tnStore (nat_lit 1) g193 g192)) noDst (dEnd [(nat_lit 186), (nat_lit 187), (nat_lit 188), (nat_lit 189), (nat_lit 190), (nat_lit 191), (nat_lit 192), (nat_lit 193)]))))))))))))) (oSet (xLook (lkBin .add g183 q14)) p194 
(oSet (xMove g194) p183 
oEnd)))))))) (kSeq (oSet (xLook (lkLoadN (nat_lit 8) g2)) p195 
(oDo (xTurn (tnStore (nat_lit 8) g4 g195)) 
oEnd)) kRet))))))))⟩
def q165 : List Value := [(.bool false), (.slice none (nat_lit 0) (nat_lit 0)), (.int .i64 (.ofNat (nat_lit 0))), (.int .i64 (.ofNat (nat_lit 0)))]
noncomputable def k141 : KFun := ⟨[rTmp (nat_lit 0) g0], (kSeq (oSet (xMove q3) p0 
oEnd) (kSeq (oSet (xLook (lkBuild q165 [((nat_lit 0), (nat_lit 1), q13)])) p1 
(oSet (xLook (lkBuild q165 [((nat_lit 0), (nat_lit 4), g1)])) p2 
(oSet (xTurn (tnBox g2)) p3 
(oSet (xMove g3) p0 
oEnd)))) kRet))⟩
def q166 : OpdF := kC (.func (.func (nat_lit 207)) ⟨[]⟩ ⟨[]⟩)
def q167 : OpdF := kC (.int .i64 (.ofNat (nat_lit 127)))
def q168 : OpdF := kC (.int .i64 (.ofNat (nat_lit 128)))
def q169 : OpdF := kC (.int .u64 (.ofNat (nat_lit 7)))
noncomputable def k142 : KFun := ⟨[], (kSeq (kSeq (oSet (xMove g0) p4 
(oSet (xCall q166 [g4]) p5 
oEnd)) (kCond g5 kRet kSkip)) (kSeq (kSeq (oSet (xMove g1) p6 
(oSet (xLook (lkBin .lss g6 q6)) p7 
oEnd)) (kCond g7 (kSeq (oSet (xMove g0) p8 
(oSet (xNil g8) p9 
(oSet (xLook (lkFieldAddr (nat_lit 0) g9)) p10 
(oSet (xLook (lkFieldAddr (nat_lit 2) g10)) p11 
(oSet (xLook (lkFieldAddr (nat_lit 0) g11)) p12 
(oDo (xTurn (tnStore (nat_lit 1) g12 q77)) 
oEnd)))))) kRet) kSkip)) (kSeq (kBlock (nat_lit 0) (kLoop (kSeq (kSeq (oSet (xMove g1) p13 
(oSet (xLook (lkBin .gtr g13 q167)) p14 
oEnd)) (kCond g14 kSkip (kExit (nat_lit 0)))) (kSeq (kBlock (nat_lit 1) (oSet (xMove g0) p17 
(oSet (xMove g0) p18 
(oSet (xNil g18) p19 
(oSet (xLook (lkFieldAddr (nat_lit 0) g19)) p20 
(oSet (xLook (lkFieldAddr (nat_lit 1) g20)) p21 
(oSet (xLook (lkLoad1 g21)) p22 
(oSet (xMove g1) p23 
(oSet (xLook (lkBin .and g23 q167)) p24 
(oSet (xLook (lkBin .or g24 q168)) p25 
(oSet (xLook (lkIntTo .u8 g25)) p26 
(oSet (xTurn (tnBuildSlice q116 [((nat_lit 0), (nat_lit 1), g26)] (nat_lit 1))) p27 
(oSet (xTurn (tnAppend (nat_lit 1) g22 g27)) p28 
(oSet (xNil g17) p29 
(oSet (xLook (lkFieldAddr (nat_lit 0) g29)) p30 
(oSet (xLook (lkFieldAddr (nat_lit 1) g30)) p31 
(oDo (xTurn (tnStore (nat_lit 1) g31 g28)) 
oEnd))))))))))))))))) (oSet (xMove g1) p15 
(oSet (xLook (lkBin .shr g15 q169)) p16 
(oSet (xMove g16) p1 
oEnd))))))) (oSet (xMove g0) p32 
(oSet (xMove g0) p33 
(oSet (xNil g33) p34 
(oSet (xLook (lkFieldAddr (nat_lit 0) g34)) p35 
(oSet (xLook (lkFieldAddr (nat_lit 1) g35)) p36 
(oSet (xLook (lkLoad1 g36)) p37 
(oSet (xMove g1) p38 
(oSet (xLook (lkIntTo .u8 g38)) p39 
(oSet (xTurn (tnBuildSlice q116 [((nat_lit 0), (nat_lit 1), g39)] (nat_lit 1))) p40 
(oSet (xTurn (tnAppend (nat_lit 1) g37 g40)) p41 
(oSet (xNil g32) p42 
(oSet (xLook (lkFieldAddr (nat_lit 0) g42)) p43 
(oSet (xLook (lkFieldAddr (nat_lit 1) g43)) p44 
(oDo (xTurn (tnStore (nat_lit 1) g44 g41)) 
oEnd)))))))))))))))))⟩
noncomputable def k143 : KFun := ⟨[], (kSeq (oSet (xTurn (tnBox g1)) p3 
oEnd) (kSeq (oSet (xMove g0) p4 
(oSet (xCall q166 [g4]) p5 
(oSet (xLook (lkUn .not g5)) p6 
oEnd))) (kCond g6 (kDraw 
(dLook (nat_lit 0) [] [] (lkMove g0) p7 
(dLook (nat_lit 1) [] [] (lkMove g0) p8 
(dTurn (nat_lit 2) [] [] false (xNil g8) p9 
(dLook (nat_lit 3) [] [] (lkFieldAddr (nat_lit 0) g9) p10 
(dLook (nat_lit 4) [] [] (lkFieldAddr (nat_lit 1) g10) p11 
(dLook (nat_lit 5) [] [] (lkLoad1 g11) p12 
(dLook (nat_lit 6) [] [] (lkSliceArr (nat_lit 32) (nat_lit 1) g3 none none none) p13 
(dTurn (nat_lit 7) [] [] true (xTurn (tnAppend (nat_lit 1) g12 g13)) p14 
(dTurn (nat_lit 8) [] [(nat_lit 7)] false (xNil g7) p15 
(dLook (nat_lit 9) [] [(nat_lit 7)] (lkFieldAddr (nat_lit 0) g15) p16 
(dLook (nat_lit 10) [] [(nat_lit 7)] (lkFieldAddr (nat_lit 1) g16) p17 
(dTurn (nat_lit 11) [] [(nat_lit 7)] true (xTurn (tnStore (nat_lit 1) g17 g14)) noDst (dEnd [(nat_lit 7), (nat_lit 8), (nat_lit 9), (nat_lit 10), (nat_lit 11), (nat_lit 12), (nat_lit 13), (nat_lit 14), (nat_lit 15), (nat_lit 16), (nat_lit 17)])))))))))))))) kSkip)))⟩
noncomputable def k144 : KFun := ⟨[rTmp (nat_lit 2) g2, rTmp (nat_lit 3) g3], (kSeq (oSet (xMove q12) p2 
(oSet (xMove q6) p3 
oEnd)) (kSeq (kBlock (nat_lit 0) (kSeq (oSet (xMove g0) p5 
(oSet (xCall q166 [g5]) p6 
(oSet (xMove g6) p4 
oEnd))) (kCond g4 (kSeq (oSet (xMove q12) p2 
(oSet (xMove q14) p3 
oEnd)) kRet) (kSeq (oSet (xMove g0) p8 
(oSet (xNil g8) p9 
(oSet (xLook (lkFieldAddr (nat_lit 0) g9)) p10 
(oSet (xLook (lkFieldAddr (nat_lit 2) g10)) p11 
(oSet (xLook (lkFieldAddr (nat_lit 0) g11)) p12 
(oSet (xLook (lkLoad1 g12)) p13 
(oSet (xLook (lkEq true .int g13 q6)) p14 
(oSet (xMove g14) p7 
oEnd)))))))) (kCond g7 (kSeq (kDraw 
(dLook (nat_lit 0) [] [] (lkMove g0) p15 
(dTurn (nat_lit 1) [] [] false (xNil g15) p16 
(dLook (nat_lit 2) [] [] (lkFieldAddr (nat_lit 0) g16) p17 
(dLook (nat_lit 3) [] [] (lkFieldAddr (nat_lit 2) g17) p18 
(dLook (nat_lit 4) [] [] (lkFieldAddr (nat_lit 0) g18) p19 
(dLook (nat_lit 5) [] [] (lkLoad1 g19) p20 
(dLook (nat_lit 6) [] [] (lkMove q12) p2 
(dLook (nat_lit 7) [] [] (lkMove g20) p3 (dEnd [(nat_lit 15), (nat_lit 16), (nat_lit 17), (nat_lit 18), (nat_lit 19), (nat_lit 20), (nat_lit 2), (nat_lit 3)])))))))))) kRet) kSkip))))) (kSeq (oSet (xTurn (tnBuildSlice [] [] (nat_lit 0))) p21 
(oSet (xMove g0) p22 
(oSet (xNil g22) p23 
(oSet (xLook (lkFieldAddr (nat_lit 0) g23)) p24 
(oSet (xLook (lkFieldAddr (nat_lit 1) g24)) p25 
(oSet (xLook (lkLoad1 g25)) p26 
(oSet (xTurn (tnAppend (nat_lit 1) g21 g26)) p27 
(oSet (xMove g27) p2 
(oSet (xMove q6) p3 
oEnd))))))))) kRet)))⟩
def q170 : OpdF := kC (.func (.func (nat_lit 208)) ⟨[]⟩ ⟨[]⟩)
def q171 : OpdF := kC (.func (.func (nat_lit 210)) ⟨[]⟩ ⟨[]⟩)
noncomputable def k145 : KFun := ⟨[rTmp (nat_lit 4) g4, rTmp (nat_lit 5) g5, rTmp (nat_lit 6) g6], (kSeq (oSet (xTurn (tnBox g1)) p3 
(oSet (xMove q6) p4 
(oSet (xMove q12) p5 
(oSet (xMove q6) p6 
oEnd)))) (kSeq (kSeq (oSet (xMove g0) p9 
(oSet (xCall q126 [g9]) p10 
(oSet (xLook (lkEq true .int g10 q6)) p11 
(oSet (xMove g11) p12 
(oSetIf (wantF g12) (xLook (lkLoad1 g3)) p13 
(oSetIf (wantF g12) (xLook (lkBin .lss g13 q14)) p14 
(oSet (xLook (lkPick g12 q13 g14)) p15 
oEnd))))))) (kCond g15 (kSeq (oSet (xMove q6) p4 
(oSet (xMove q12) p5 
(oSet (xMove q7) p6 
oEnd))) kRet) kSkip)) (kSeq (oSet (xMove g0) p16 
(oSet (xLook (lkMkFunc (.func (nat_lit 209)) [] [g3])) p17 
(oSet (xCall q170 [g16, g17]) p18 
(oSet (xMove g18) p7 
oEnd)))) (kSeq (kSeq (oSet (xMove g7) p19 
(oSet (xLook (lkBin .lss g19 q6)) p20 
oEnd)) (kCond g20 (kSeq (oSet (xMove q6) p4 
(oSet (xMove q12) p5 
(oSet (xMove q44) p6 
oEnd))) kRet) kSkip)) (kSeq (oSet (xMove g0) p21 
(oSet (xMove g7) p22 
(oSet (xLook (lkIxSl (nat_lit 2) g21 g22)) p23 
(oSet (xLook (lkFieldAddr (nat_lit 0) g23)) p24 
(oSet (xLook (lkLoad1 g24)) p25 
(oSet (xMove g25) p8 
oEnd)))))) (kSeq (oSet (xMove g8) p26 
(oSet (xMove g0) p27 
(oSet (xMove g7) p28 
(oSet (xMove g8) p29 
(oSet (xLook (lkLoad1 g3)) p30 
(oSet (xCall q171 [g27, g28, g29, g30]) p31 
(oSet (xMove g26) p4 
(oSet (xMove g31) p5 
(oSet (xMove q6) p6 
oEnd))))))))) kRet))))))⟩
def q172 : OpdF := kC (.func (.func (nat_lit 211)) ⟨[]⟩ ⟨[]⟩)
def q173 : List Value := [(.int .u8 (.ofNat (nat_lit 0))), (.int .u8 (.ofNat (nat_lit 0))), (.int .u8 (.ofNat (nat_lit 0))), (.int .u8 (.ofNat (nat_lit 0))), (.int .u8 (.ofNat (nat_lit 0))), (.int .u8 (.ofNat (nat_lit 0))), (.int .u8 (.ofNat (nat_lit 0))), (.int .u8 (.ofNat (nat_lit 0))), (.int .u8 (.ofNat (nat_lit 0))), (.int .u8 (.ofNat (nat_lit 0))), (.int .u8 (.ofNat (nat_lit 0))), (.int .u8 (.ofNat (nat_lit 0))), (.int .u8 (.ofNat (nat_lit 0))), (.int .u8 (.ofNat (nat_lit 0))), (.int .u8 (.ofNat (nat_lit 0))), (.int .u8 (.ofNat (nat_lit 0))), (.int .u8 (.ofNat (nat_lit 0))), (.int .u8 (.ofNat (nat_lit 0))), (.int .u8 (.ofNat (nat_lit 0))), (.int .u8 (.ofNat (nat_lit 0))), (.int .u8 (.ofNat (nat_lit 0))), (.int .u8 (.ofNat (nat_lit 0))), (.int .u8 (.ofNat (nat_lit 0))), (.int .u8 (.ofNat (nat_lit 0))), (.int .u8 (.ofNat (nat_lit 0))), (.int .u8 (.ofNat (nat_lit 0))), (.int .u8 (.ofNat (nat_lit 0))), (.int .u8 (.ofNat (nat_lit 0))), (.int .u8 (.ofNat (nat_lit 0))), (.int .u8 (.ofNat (nat_lit 0))), (.int .u8 (.ofNat (nat_lit 0))), (.int .u8 (.ofNat (nat_lit 0))), (.int .u8 (.ofNat (nat_lit 0))), (.int .u8 (.ofNat (nat_lit 0))), (.int .u8 (.ofNat (nat_lit 0))), (.int .u8 (.ofNat (nat_lit 0))), (.int .u8 (.ofNat (nat_lit 0)))]
def q174 : OpdF := kC (.func (.func (nat_lit 212)) ⟨[]⟩ ⟨[]⟩)
noncomputable def k146 : KFun := ⟨[rTmp (nat_lit 4) g4, rTmp (nat_lit 5) g5], (kSeq (oSet (xMove q12) p4 
(oSet (xMove q6) p5 
oEnd)) (kSeq (oSet (xMove g0) p12 
(oSet (xMove g1) p13 
(oSet (xCall q172 [g12, g13]) p14 
(oSet (xMove g14) p11 
(oSet (xLook (lkExtract (nat_lit 0) g11)) p15 
(oSet (xLook (lkExtract (nat_lit 1) g11)) p16 
(oSet (xTurn (tnAlloc q9)) p6 
(oDo (xTurn (tnStore (nat_lit 32) g6 g15)) 
(oSet (xMove g16) p7 
oEnd))))))))) (kSeq (kSeq (oSet (xMove g7) p17 
(oSet (xLook (lkEq true .int g17 q6)) p18 
oEnd)) (kCond g18 (kSeq (oSet (xMove g7) p19 
(oSet (xMove q12) p4 
(oSet (xMove g19) p5 
oEnd))) kRet) kSkip)) (kSeq (oSet (xTurn (tnAlloc q173)) p8 
oEnd) (kSeq (oSet (xMove g0) p20 
(oSet (xLook (lkIntTo .u8 g20)) p21 
(oSet (xLook (lkIxArr (nat_lit 37) (nat_lit 1) g8 q6)) p22 
(oDo (xTurn (tnStore (nat_lit 1) g22 g21)) 
oEnd)))) (kSeq (kSeq (oSet (xMove q6) p23 
oEnd) (kBlock (nat_lit 0) (kLoop (kSeq (oSet (xLook (lkBin .lss g23 q43)) p24 
oEnd) (kSeq (kCond g24 kSkip (kExit (nat_lit 0))) (kSeq (kBlock (nat_lit 1) (kSeq (oSet (xMove g23) p25 
(oSet (xMove g25) p9 
oEnd)) (oSet (xMove g9) p26 
(oSet (xLook (lkBin .add q14 g26)) p27 
(oSet (xMove g1) p28 
(oSet (xLook (lkLen .sl g28)) p29 
(oSet (xMove g9) p30 
(oSet (xLook (lkBin .mul q44 g30)) p31 
(oSet (xLook (lkBin .sub q93 g31)) p32 
(oSet (xLook (lkBin .shr g29 g32)) p33 
(oSet (xLook (lkIntTo .u8 g33)) p34 
(oSet (xLook (lkIxArr (nat_lit 37) (nat_lit 1) g8 g27)) p35 
(oDo (xTurn (tnStore (nat_lit 1) g35 g34)) 
oEnd))))))))))))) (oSet (xLook (lkBin .add g23 q14)) p36 
(oSet (xMove g36) p23 
oEnd)))))))) (kSeq (kDraw 
(dLook (nat_lit 0) [] [] (lkSliceArr (nat_lit 37) (nat_lit 1) g8 (some q77) none none) p37 
(dLook (nat_lit 1) [] [] (lkSliceArr (nat_lit 32) (nat_lit 1) g6 none none none) p38 
(dTurn (nat_lit 2) [] [] true (xTurn (tnCopy (nat_lit 1) g37 g38)) p39 (dEnd [(nat_lit 37), (nat_lit 38), (nat_lit 39)]))))) (kSeq (oSet (xLook (lkSliceArr (nat_lit 37) (nat_lit 1) g8 none none none)) p40 
(oSet (xMove g1) p41 
(oSet (xTurn (tnBuildSlice q115 [((nat_lit 0), (nat_lit 1), g40), ((nat_lit 1), (nat_lit 1), g41)] (nat_lit 2))) p42 
(oSet (xCall q174 [g42]) p43 
(oSet (xMove g43) p10 
oEnd))))) (kSeq (oSet (xMove g10) p44 
(oSet (xMove g1) p45 
(oSet (xLook (lkLen .sl g45)) p46 
(oSet (xCall q33 [g46]) p47 
(oSet (xLook (lkBin .mul g47 q86)) p48 
(oSet (xMove g10) p49 
(oSet (xLook (lkLen .sl g49)) p50 
(oSet (xLook (lkBin .sub g48 g50)) p51 
(oSet (xTurn (tnAppendZ q116 g44 g51)) p52 
(oSet (xMove g52) p4 
(oSet (xMove q6) p5 
oEnd))))))))))) kRet)))))))))⟩
def q175 : List Value := [(.int .i64 (.ofNat (nat_lit 0)))]
def q176 : OpdF := kC (.func (.func (nat_lit 213)) ⟨[]⟩ ⟨[]⟩)
def q177 : CCode := (.region false [⟨none, (some (nat_lit 9)), (.move (.tmp (nat_lit 19))), (nat_lit 0), [], []⟩])
def q178 : CCode := (.block (nat_lit 3) (.seq (.seq (.region true [⟨none, (some (nat_lit 20)), (.load1 (.tmp (nat_lit 3))), (nat_lit 0), [], []⟩,
⟨none, (some (nat_lit 21)), (.nilCheck (.tmp (nat_lit 20))), (nat_lit 1), [], []⟩,
⟨none, (some (nat_lit 22)), (.fieldAddr (nat_lit 2) (.tmp (nat_lit 21))), (nat_lit 2), [], []⟩,
⟨none, (some (nat_lit 23)), (.load1 (.tmp (nat_lit 22))), (nat_lit 3), [], []⟩,
⟨none, (some (nat_lit 24)), (.load1 (.tmp (nat_lit 4))), (nat_lit 4), [], []⟩,
⟨none, (some (nat_lit 25)), (.move (.tmp (nat_lit 9))), (nat_lit 5), [], []⟩,
⟨none, (some (nat_lit 26)), (.call (.const (.func (.func (nat_lit 214)) ⟨[]⟩ ⟨[]⟩)) [(.tmp (nat_lit 23)), (.tmp (nat_lit 24)), (.tmp (nat_lit 25))]), (nat_lit 6), [], []⟩,
⟨none, (some (nat_lit 10)), (.move (.tmp (nat_lit 26))), (nat_lit 7), [], [(nat_lit 6)]⟩]) (.seq (.region false [⟨none, (some (nat_lit 27)), (.move (.tmp (nat_lit 10))), (nat_lit 0), [], []⟩,
⟨none, (some (nat_lit 28)), (.eq true .int (.tmp (nat_lit 27)) (.const (.int .i64 (.ofNat (nat_lit 0))))), (nat_lit 1), [], []⟩]) (.cond (.tmp (nat_lit 28)) (.seq (.region false [⟨none, (some (nat_lit 29)), (.move (.tmp (nat_lit 10))), (nat_lit 0), [], []⟩,
⟨none, none, (.store (nat_lit 1) (.tmp (nat_lit 6)) (.tmp (nat_lit 29))), (nat_lit 1), [], []⟩]) .ret) .skip))) (.region false [⟨none, (some (nat_lit 30)), (.load1 (.tmp (nat_lit 4))), (nat_lit 0), [], []⟩,
⟨none, (some (nat_lit 31)), (.bin .add (.tmp (nat_lit 30)) (.const (.int .i64 (.ofNat (nat_lit 1))))), (nat_lit 1), [], []⟩,
⟨none, none, (.store (nat_lit 1) (.tmp (nat_lit 4)) (.tmp (nat_lit 31))), (nat_lit 2), [], []⟩])))
noncomputable def k147 : KFun := ⟨[rCell1 (nat_lit 6) g6], (kSeq (oSet (xTurn (tnBox g0)) p3 
(oSet (xTurn (tnBox g1)) p4 
(oSet (xTurn (tnAlloc q175)) p6 
oEnd))) (kSeq (kSeq (oSet (xMove g2) p11 
(oSet (xLook (lkLen .sl g11)) p12 
(oSet (xMove q6) p13 
oEnd))) (kBlock (nat_lit 0) (kLoop (kSeq (oSet (xLook (lkBin .lss g13 g12)) p14 
oEnd) (kSeq (kCond g14 kSkip (kExit (nat_lit 0))) (kSeq (kBlock (nat_lit 1) (kSeq (oSet (xLook (lkIxSl (nat_lit 1) g11 g13)) p15 
(oSet (xLook (lkLoad1 g15)) p16 
(oSet (xMove g16) p8 
oEnd))) (kSeq (oSet (xMove g8) p17 
(oSet (xCall q176 [g17, q86]) p18 
oEnd)) (kBlock (nat_lit 2) (kRange g18 [(nat_lit 19)] q177 q178))))) (oSet (xLook (lkBin .add g13 q14)) p32 
(oSet (xMove g32) p13 
oEnd)))))))) (kSeq (oDo (xTurn (tnStore (nat_lit 1) g6 q6)) 
oEnd) kRet)))⟩
def q179 : OpdF := kC (.func (.func (nat_lit 215)) ⟨[]⟩ ⟨[]⟩)
noncomputable def k148 : KFun := ⟨[rTmp (nat_lit 2) g2], (kSeq (oSet (xTurn (tnBox g0)) p1 
(oSet (xMove q6) p2 
oEnd)) (kSeq (kSeq (oSet (xLook (lkLoad1 g1)) p3 
(oSet (xCall q110 [g3]) p4 
oEnd)) (kCond g4 (kSeq (oSet (xMove q14) p2 
oEnd) kRet) kSkip)) (kSeq (oSet (xLook (lkLoad1 g1)) p5 
(oSet (xNil g5) p6 
(oSet (xLook (lkFieldAddr (nat_lit 0) g6)) p7 
(oSet (xLook (lkMkFunc (.func (nat_lit 216)) [] [g1])) p8 
(oSet (xCall q179 [g7, g8]) p9 
(oSet (xMove g9) p2 
oEnd)))))) kRet)))⟩
def q180 : OpdF := kC (.func (.func (nat_lit 217)) ⟨[]⟩ ⟨[]⟩)
def q181 : OpdF := kC (.func (.func (nat_lit 214)) ⟨[]⟩ ⟨[]⟩)
noncomputable def k149 : KFun := ⟨[rTmp (nat_lit 4) g4], (kSeq (oSet (xTurn (tnBox g1)) p3 
(oSet (xMove q6) p4 
oEnd)) (kSeq (kSeq (oSet (xMove g0) p15 
(oSet (xCall q41 [g15, q6]) p16 
(oSet (xMove g16) p14 
(oSet (xLook (lkExtract (nat_lit 0) g14)) p17 
(oSet (xLook (lkExtract (nat_lit 1) g14)) p18 
(oSet (xMove g17) p5 
(oSet (xMove g18) p6 
oEnd))))))) (kSeq (oSet (xMove g6) p19 
(oSet (xLook (lkEq false .int g19 q14)) p20 
oEnd)) (kCond g20 (kSeq (oSet (xMove g6) p21 
(oSet (xMove g21) p4 
oEnd)) kRet) kSkip))) (kSeq (oSet (xLook (lkLoadN (nat_lit 35) g3)) p23 
(oSet (xCall q180 [g23]) p24 
(oSet (xMove g24) p22 
(oSet (xLook (lkExtract (nat_lit 0) g22)) p25 
(oSet (xLook (lkExtract (nat_lit 1) g22)) p26 
(oSet (xMove g25) p7 
(oSet (xMove g26) p8 
oEnd))))))) (kSeq (kSeq (oSet (xMove g8) p27 
(oSet (xLook (lkEq true .int g27 q6)) p28 
oEnd)) (kCond g28 (kSeq (oSet (xMove g8) p29 
(oSet (xMove g29) p4 
oEnd)) kRet) kSkip)) (kSeq (oSet (xMove g0) p31 
(oSet (xCall q111 [g31]) p32 
(oSet (xMove g32) p30 
(oSet (xLook (lkExtract (nat_lit 0) g30)) p33 
(oSet (xLook (lkExtract (nat_lit 1) g30)) p34 
(oSet (xLook (lkExtract (nat_lit 2) g30)) p35 
(oSet (xMove g33) p9 
(oSet (xMove g34) p10 
(oSet (xMove g35) p8 
oEnd))))))))) (kSeq (kSeq (oSet (xMove g8) p36 
(oSet (xLook (lkEq true .int g36 q6)) p37 
oEnd)) (kCond g37 (kSeq (oSet (xMove g8) p38 
(oSet (xMove g38) p4 
oEnd)) kRet) kSkip)) (kSeq (oSet (xMove q6) p11 
oEnd) (kSeq (kSeq (oSet (xMove g9) p39 
(oSet (xCall q112 [g39]) p40 
(oSet (xMove g40) p12 
oEnd))) (kSeq (oSet (xMove g12) p41 
(oSet (xLook (lkBin .geq g41 q6)) p42 
oEnd)) (kCond g42 (kSeq (kSeq (kDraw 
(dLook (nat_lit 0) [] [] (lkMove g9) p43 
(dLook (nat_lit 1) [] [] (lkMove g12) p44 
(dLook (nat_lit 2) [] [] (lkIxSl (nat_lit 1) g43 g44) p45 
(dLook (nat_lit 3) [] [] (lkLoad1 g45) p46 
(dTurn (nat_lit 4) [] [] false (xNil g46) p47 
(dLook (nat_lit 5) [] [] (lkFieldAddr (nat_lit 0) g47) p48 
(dLook (nat_lit 6) [] [] (lkLoad1 g48) p49 
(dLook (nat_lit 7) [] [] (lkFieldAddr (nat_lit 0) g3) p50 
(dLook (nat_lit 8) [] [] (lkLoad1 g50) p51 
(dLook (nat_lit 9) [] [] (lkBin .geq g49 g51) p52 (dEnd [(nat_lit 43), (nat_lit 44), (nat_lit 45), (nat_lit 46), (nat_lit 47), (nat_lit 48), (nat_lit 49), (nat_lit 50), (nat_lit 51), (nat_lit 52)])))))))))))) (kCond g52 (kSeq (oSet (xMove q77) p4 
oEnd) kRet) kSkip)) (oSet (xMove g12) p53 
(oSet (xLook (lkBin .sub q14 g53)) p54 
(oSet (xMove g54) p11 
oEnd)))) kSkip))) (kSeq (kSeq (oSet (xMove g0) p55 
(oSet (xMove g11) p56 
(oSet (xMove g7) p57 
(oSet (xCall q181 [g55, g56, g57]) p58 
(oSet (xMove g58) p13 
oEnd))))) (kSeq (oSet (xMove g13) p59 
(oSet (xLook (lkEq true .int g59 q6)) p60 
oEnd)) (kCond g60 (kSeq (oSet (xMove g13) p61 
(oSet (xMove g61) p4 
oEnd)) kRet) kSkip))) (kSeq (oSet (xMove g0) p62 
(oSet (xCall q103 [g62]) p63 
(oSet (xMove g63) p4 
oEnd))) kRet))))))))))⟩
noncomputable def k150 : KFun := ⟨[rTmp (nat_lit 4) g4], (kSeq (oSet (xMove q6) p4 
oEnd) (kSeq (kBlock (nat_lit 0) (kSeq (oSet (xMove g0) p6 
(oSet (xCall q110 [g6]) p7 
(oSet (xMove g7) p5 
oEnd))) (kCond g5 (kSeq (oSet (xMove q14) p4 
oEnd) kRet) (kSeq (oSet (xMove g0) p9 
(oSet (xNil g9) p10 
(oSet (xLook (lkFieldAddr (nat_lit 0) g10)) p11 
(oSet (xLook (lkFieldAddr (nat_lit 2) g11)) p12 
(oSet (xLook (lkLoad1 g12)) p13 
(oSet (xMove g13) p8 
oEnd)))))) (kCond g8 (kSeq (oSet (xMove q37) p4 
oEnd) kRet) (kSeq (oSet (xMove g1) p15 
(oSet (xLook (lkBin .lss g15 q6)) p16 
(oSet (xMove g16) p17 
(oSetIf (wantF g17) (xMove g1) p18 
(oSetIf (wantF g17) (xMove g0) p19 
(oSetIf (wantF g17) (xNil g19) p20 
(oSetIf (wantF g17) (xLook (lkFieldAddr (nat_lit 4) g20)) p21 
(oSetIf (wantF g17) (xLook (lkLoad1 g21)) p22 
(oSetIf (wantF g17) (xLook (lkBin .geq g18 g22)) p23 
(oSet (xLook (lkPick g17 q13 g23)) p24 
(oSet (xMove g24) p14 
oEnd))))))))))) (kCond g14 (kSeq (oSet (xMove q77) p4 
oEnd) kRet) kSkip))))))) (kSeq (oSet (xMove q6) p4 
oEnd) kRet)))⟩
noncomputable def k151 : KFun := ⟨[rTmp (nat_lit 2) g2], (kSeq (oSet (xMove q0) p2 
oEnd) (kSeq (oSet (xMove g0) p3 
(oSet (xLook (lkEq false .ptr g3 q3)) p4 
(oSet (xMove g4) p5 
(oSetIf (wantF g5) (xMove g0) p6 
(oSetIf (wantF g5) (xNil g6) p7 
(oSetIf (wantF g5) (xLook (lkFieldAddr (nat_lit 3) g7)) p8 
(oSetIf (wantF g5) (xLook (lkLoad1 g8)) p9 
(oSetIf (wantF g5) (xLook (lkUn .not g9)) p10 
(oSet (xLook (lkPick g5 q13 g10)) p11 
(oSet (xMove g11) p2 
oEnd)))))))))) kRet))⟩
def q182 : OpdF := kC (.func (.func (nat_lit 218)) ⟨[]⟩ ⟨[]⟩)
def q183 : List Value := [(.pointer none)]
noncomputable def k152 : KFun := ⟨[rTmp (nat_lit 2) g2, rTmp (nat_lit 3) g3, rTmp (nat_lit 4) g4], (kSeq (oSet (xMove q12) p2 
(oSet (xMove q0) p3 
(oSet (xMove q6) p4 
oEnd))) (kSeq (kSeq (oSet (xMove g0) p15 
(oSet (xCall q41 [g15, q6]) p16 
(oSet (xMove g16) p14 
(oSet (xLook (lkExtract (nat_lit 0) g14)) p17 
(oSet (xLook (lkExtract (nat_lit 1) g14)) p18 
(oSet (xMove g17) p5 
(oSet (xMove g18) p6 
oEnd))))))) (kSeq (oSet (xMove g6) p19 
(oSet (xLook (lkEq false .int g19 q14)) p20 
oEnd)) (kCond g20 (kSeq (oSet (xMove g6) p21 
(oSet (xMove q12) p2 
(oSet (xMove q0) p3 
(oSet (xMove g21) p4 
oEnd)))) kRet) kSkip))) (kSeq (kSeq (oSet (xMove g0) p22 
(oSet (xCall q42 [g22]) p23 
(oSet (xLook (lkBin .lss g23 q7)) p24 
oEnd))) (kCond g24 (kSeq (oSet (xMove q12) p2 
(oSet (xMove q0) p3 
(oSet (xMove q44) p4 
oEnd))) kRet) kSkip)) (kSeq (oSet (xMove q0) p7 
oEnd) (kSeq (oSet (xMove q12) p8 
oEnd) (kSeq (kSeq (oSet (xMove q6) p25 
oEnd) (kBlock (nat_lit 0) (kLoop (kSeq (oSet (xLook (lkBin .lss g25 q7)) p26 
oEnd) (kSeq (kCond g26 kSkip (kExit (nat_lit 0))) (kSeq (kBlock (nat_lit 1) (kSeq (oSet (xMove g25) p27 
(oSet (xMove g27) p9 
oEnd)) (kSeq (oSet (xMove g0) p29 
(oSet (xMove g9) p30 
(oSet (xCall q41 [g29, g30]) p31 
(oSet (xMove g31) p28 
(oSet (xLook (lkExtract (nat_lit 0) g28)) p32 
(oSet (xLook (lkExtract (nat_lit 1) g28)) p33 
(oSet (xMove g32) p10 
(oSet (xMove g33) p11 
oEnd)))))))) (kSeq (kSeq (oSet (xMove g11) p34 
(oSet (xLook (lkEq true .int g34 q6)) p35 
oEnd)) (kCond g35 (kSeq (oSet (xMove g11) p36 
(oSet (xMove q12) p2 
(oSet (xMove q0) p3 
(oSet (xMove g36) p4 
oEnd)))) kRet) kSkip)) (kSeq (oSet (xMove g7) p37 
(oSet (xMove g37) p38 
(oSetIf (wantF g38) (xMove g10) p39 
(oSetIf (wantF g38) (xTurn (tnMkSlice q116 q86 q86)) p40 
(oSetIf (wantF g38) (xCall q117 [g39, g40]) p41 
(oSet (xLook (lkPick g38 q13 g41)) p42 
(oSet (xMove g42) p7 
oEnd))))))) (kSeq (oSet (xMove g10) p44 
(oSet (xCall q182 [g44]) p45 
(oSet (xMove g45) p43 
(oSet (xLook (lkExtract (nat_lit 0) g43)) p46 
(oSet (xLook (lkExtract (nat_lit 1) g43)) p47 
(oSet (xTurn (tnAlloc q35)) p12 
(oDo (xTurn (tnStore (nat_lit 35) g12 g46)) 
(oSet (xMove g47) p13 
oEnd)))))))) (kSeq (oSet (xMove g13) p48 
oEnd) (kCond g48 (oSet (xMove g8) p49 
(oSet (xTurn (tnBuildSlice q183 [((nat_lit 0), (nat_lit 1), g12)] (nat_lit 1))) p50 
(oSet (xTurn (tnAppend (nat_lit 1) g49 g50)) p51 
(oSet (xMove g51) p8 
oEnd)))) (oSet (xMove g8) p52 
(oSet (xTurn (tnBuildSlice q183 [((nat_lit 0), (nat_lit 1), q3)] (nat_lit 1))) p53 
(oSet (xTurn (tnAppend (nat_lit 1) g52 g53)) p54 
(oSet (xMove g54) p8 
oEnd)))))))))))) (oSet (xLook (lkBin .add g25 q14)) p55 
(oSet (xMove g55) p25 
oEnd)))))))) (kSeq (oSet (xMove g8) p56 
(oSet (xMove g7) p57 
(oSet (xMove g56) p2 
(oSet (xMove g57) p3 
(oSet (xMove q6) p4 
oEnd))))) kRet)))))))⟩
noncomputable def k153d0 : KD := 
(dLook (nat_lit 19) [] [] (lkPick g15 g31 q0) p32 (dEnd [(nat_lit 13), (nat_lit 14), (nat_lit 15), (nat_lit 16), (nat_lit 17), (nat_lit 18), (nat_lit 19), (nat_lit 20), (nat_lit 21), (nat_lit 22), (nat_lit 23), (nat_lit 24), (nat_lit 25), (nat_lit 26), (nat_lit 27), (nat_lit 28), (nat_lit 29), (nat_lit 30), (nat_lit 31), (nat_lit 32)]))
noncomputable def k153d1 : KD := 
(dIf [] (wantT g15) p31 (dLook (nat_lit 18) [] [] (lkPick g18 q13 g30) p31 k153d0) k153d0)
noncomputable def k153d2 : KD := 
(dIf [] (wantF g18) p30 (dLook (nat_lit 17) [] [] (lkBin .gtr g22 g29) p30 k153d1) k153d1)
noncomputable def k153d3 : KD := 
(dIf [] (wantF g18) p29 (dLook (nat_lit 16) [] [] (lkLoad1 g28) p29 k153d2) k153d2)
noncomputable def k153d4 : KD := 
(dIf [] (wantF g18) p28 (dLook (nat_lit 15) [] [] (lkFieldAddr (nat_lit 0) g27) p28 k153d3) k153d3)
noncomputable def k153d5 : KD := 
(dIf [] (wantF g18) p27 (dTurn (nat_lit 14) [] [] false (xNil g26) p27 k153d4) k153d4)
noncomputable def k153d6 : KD := 
(dIf [] (wantF g18) p26 (dLook (nat_lit 13) [] [] (lkLoad1 g25) p26 k153d5) k153d5)
noncomputable def k153d7 : KD := 
(dIf [] (wantF g18) p25 (dLook (nat_lit 12) [] [] (lkIxSl (nat_lit 1) g23 g24) p25 k153d6) k153d6)
noncomputable def k153d8 : KD := 
(dIf [] (wantF g18) p24 (dLook (nat_lit 11) [] [] (lkMove g3) p24 k153d7) k153d7)
noncomputable def k153d9 : KD := 
(dIf [] (wantF g18) p23 (dLook (nat_lit 10) [] [] (lkMove g0) p23 k153d8) k153d8)
noncomputable def k153d10 : KD := 
(dIf [] (wantF g18) p22 (dLook (nat_lit 9) [] [] (lkLoad1 g21) p22 k153d9) k153d9)
noncomputable def k153d11 : KD := 
(dIf [] (wantF g18) p21 (dLook (nat_lit 8) [] [] (lkFieldAddr (nat_lit 0) g20) p21 k153d10) k153d10)
noncomputable def k153d12 : KD := 
(dIf [] (wantF g18) p20 (dTurn (nat_lit 7) [] [] false (xNil g19) p20 k153d11) k153d11)
noncomputable def k153d13 : KD := 
(dIf [] (wantF g18) p19 (dLook (nat_lit 6) [] [] (lkMove g5) p19 k153d12) k153d12)
noncomputable def k153d14 : KD := 
(dIf [] (wantT g15) p18 (dLook (nat_lit 5) [] [] (lkMove g17) p18 k153d13) k153d13)
noncomputable def k153d15 : KD := 
(dIf [] (wantT g15) p17 (dLook (nat_lit 4) [] [] (lkBin .lss g16 q6) p17 k153d14) k153d14)
noncomputable def k153 : KFun := ⟨[rTmp (nat_lit 2) g2], (kSeq (oSet (xMove q6) p2 
oEnd) (kSeq (oSet (xMove q79) p3 
oEnd) (kSeq (kSeq (oSet (xMove g0) p6 
(oSet (xLook (lkLen .sl g6)) p7 
(oSet (xMove q6) p8 
oEnd))) (kBlock (nat_lit 0) (kLoop (kSeq (oSet (xLook (lkBin .lss g8 g7)) p9 
oEnd) (kSeq (kCond g9 kSkip (kExit (nat_lit 0))) (kSeq (kBlock (nat_lit 1) (kSeq (oSet (xMove g8) p10 
(oSet (xLook (lkIxSl (nat_lit 1) g6 g8)) p11 
(oSet (xLook (lkLoad1 g11)) p12 
(oSet (xMove g10) p4 
(oSet (xMove g12) p5 
oEnd))))) (kSeq (kDraw 
(dLook (nat_lit 0) [] [] (lkMove g5) p13 
(dLook (nat_lit 1) [] [] (lkEq true .ptr g13 q3) p14 
(dLook (nat_lit 2) [] [] (lkMove g14) p15 
(dIf [] (wantT g15) p16 (dLook (nat_lit 3) [] [] (lkMove g3) p16 k153d15) k153d15))))) (kCond g32 (oSet (xMove g4) p33 
(oSet (xMove g33) p3 
oEnd)) kSkip)))) (oSet (xLook (lkBin .add g8 q14)) p34 
(oSet (xMove g34) p8 
oEnd)))))))) (kSeq (oSet (xMove g3) p35 
(oSet (xMove g35) p2 
oEnd)) kRet))))⟩
noncomputable def k154 : KFun := ⟨[rTmp (nat_lit 4) g4], (kSeq (oSet (xMove q0) p4 
oEnd) (kSeq (oSet (xMove g0) p5 
(oSet (xLook (lkBytesTo g5)) p6 
(oSet (xMove g1) p7 
(oSet (xLook (lkBytesTo g7)) p8 
(oSet (xLook (lkEq false .str g6 g8)) p9 
(oSet (xMove g9) p4 
oEnd)))))) kRet))⟩
def q184 : List Value := [(.bool false), (.slice none (nat_lit 0) (nat_lit 0)), (.int .i64 (.ofNat (nat_lit 0))), (.int .i64 (.ofNat (nat_lit 0))), (.int .i64 (.ofNat (nat_lit 0)))]
noncomputable def k155 : KFun := ⟨[rTmp (nat_lit 2) g2], (kSeq (oSet (xMove q3) p2 
oEnd) (kSeq (oSet (xTurn (tnBuildSlice [] [] (nat_lit 0))) p3 
(oSet (xMove g0) p4 
(oSet (xTurn (tnAppend (nat_lit 1) g3 g4)) p5 
(oSet (xLook (lkBuild q165 [((nat_lit 0), (nat_lit 1), q13), ((nat_lit 1), (nat_lit 1), g5)])) p6 
(oSet (xLook (lkBuild q184 [((nat_lit 0), (nat_lit 4), g6)])) p7 
(oSet (xTurn (tnBox g7)) p8 
(oSet (xMove g8) p2 
oEnd))))))) kRet))⟩
def q185 : OpdF := kC (.func (.func (nat_lit 219)) ⟨[]⟩ ⟨[]⟩)
noncomputable def k156 : KFun := ⟨[rTmp (nat_lit 4) g4], (kSeq (oSet (xTurn (tnBox g0)) p2 
(oSet (xTurn (tnBox g1)) p3 
(oSet (xMove q6) p4 
oEnd))) (kSeq (oSet (xTurn (tnAlloc q175)) p5 
(oDo (xTurn (tnStore (nat_lit 1) g5 q6)) 
oEnd)) (kSeq (kSeq (oSet (xLook (lkLoad1 g2)) p6 
(oSet (xLook (lkMkFunc (.func (nat_lit 220)) [] [g2, g3, g5])) p7 
(oSet (xCall q185 [g6, g7]) p8 
(oSet (xLook (lkUn .not g8)) p9 
oEnd)))) (kCond g9 (kSeq (oSet (xMove q6) p4 
oEnd) kRet) kSkip)) (kSeq (oSet (xLook (lkLoad1 g5)) p10 
(oSet (xMove g10) p4 
oEnd)) kRet))))⟩
noncomputable def k157 : KFun := ⟨[rCellN (nat_lit 2) g2 (nat_lit 32)], (kSeq (oSet (xTurn (tnBox g0)) p1 
(oSet (xTurn (tnAlloc q9)) p2 
oEnd)) (kSeq (oSet (xTurn (tnAlloc q9)) p3 
oEnd) (kSeq (kSeq (oSet (xLook (lkLoad1 g1)) p4 
(oSet (xLook (lkMkFunc (.func (nat_lit 222)) [] [g3, g1])) p5 
(oSet (xCall q185 [g4, g5]) p6 
(oSet (xLook (lkUn .not g6)) p7 
oEnd)))) (kCond g7 (kSeq (oSet (xLook (lkBuild q9 [])) p8 
(oDo (xTurn (tnStore (nat_lit 32) g2 g8)) 
oEnd)) kRet) kSkip)) (kSeq (oSet (xLook (lkLoadN (nat_lit 32) g3)) p9 
(oDo (xTurn (tnStore (nat_lit 32) g2 g9)) 
oEnd)) kRet))))⟩
noncomputable def k158 : KFun := ⟨[rTmp (nat_lit 6) g6], (kSeq (oSet (xTurn (tnBox g0)) p3 
(oSet (xTurn (tnBox g1)) p4 
(oSet (xTurn (tnBox g2)) p5 
(oSet (xMove q6) p6 
oEnd)))) (kSeq (oSet (xTurn (tnAlloc q175)) p7 
(oDo (xTurn (tnStore (nat_lit 1) g7 q6)) 
oEnd)) (kSeq (kSeq (oSet (xLook (lkLoad1 g3)) p8 
(oSet (xLook (lkMkFunc (.func (nat_lit 224)) [] [g3, g4, g5, g7])) p9 
(oSet (xCall q185 [g8, g9]) p10 
(oSet (xLook (lkUn .not g10)) p11 
oEnd)))) (kCond g11 (kSeq (oSet (xMove q6) p6 
oEnd) kRet) kSkip)) (kSeq (oSet (xLook (lkLoad1 g7)) p12 
(oSet (xMove g12) p6 
oEnd)) kRet))))⟩
def q186 : OpdF := kC (.func (.func (nat_lit 225)) ⟨[]⟩ ⟨[]⟩)
noncomputable def k159 : KFun := ⟨[rCellN (nat_lit 2) g2 (nat_lit 2)], (kSeq (oSet (xTurn (tnAlloc q40)) p2 
oEnd) (kSeq (kSeq (oSet (xMove g0) p3 
(oSet (xLook (lkEq false .ptr g3 q3)) p4 
(oSet (xMove g4) p5 
(oSetIf (wantF g5) (xMove g0) p6 
(oSetIf (wantF g5) (xNil g6) p7 
(oSetIf (wantF g5) (xLook (lkFieldAddr (nat_lit 0) g7)) p8 
(oSetIf (wantF g5) (xCall q186 [g8]) p9 
(oSet (xLook (lkPick g5 q13 g9)) p10 
oEnd)))))))) (kCond g10 (kSeq (oSet (xLook (lkBuild q40 [((nat_lit 0), (nat_lit 1), q14)])) p11 
(oDo (xTurn (tnStore (nat_lit 2) g2 g11)) 
oEnd)) kRet) kSkip)) (kSeq (oSet (xMove g0) p12 
(oSet (xNil g12) p13 
(oSet (xLook (lkFieldAddr (nat_lit 0) g13)) p14 
(oSet (xLook (lkFieldAddr (nat_lit 2) g14)) p15 
(oSet (xLook (lkLoadN (nat_lit 2) g15)) p16 
(oDo (xTurn (tnStore (nat_lit 2) g2 g16)) 
oEnd)))))) kRet)))⟩
def q187 : OpdF := kC (.func (.func (nat_lit 226)) ⟨[]⟩ ⟨[]⟩)
noncomputable def k160 : KFun := ⟨[rCellN (nat_lit 2) g2 (nat_lit 2)], (kSeq (oSet (xTurn (tnAlloc q40)) p2 
oEnd) (kSeq (oSet (xMove g0) p4 
(oSet (xCall q122 [g4]) p5 
(oSet (xTurn (tnAlloc q40)) p3 
(oDo (xTurn (tnStore (nat_lit 2) g3 g5)) 
oEnd)))) (kSeq (kSeq (oSet (xLook (lkFieldAddr (nat_lit 0) g3)) p6 
(oSet (xLook (lkLoad1 g6)) p7 
(oSet (xLook (lkEq false .int g7 q6)) p8 
(oSet (xMove g8) p9 
(oSetIf (wantT g9) (xMove g0) p10 
(oSetIf (wantT g9) (xCall q187 [g10]) p11 
(oSetIf (wantT g9) (xLook (lkBin .gtr g11 q6)) p12 
(oSet (xLook (lkPick g9 g12 q0)) p13 
oEnd)))))))) (kCond g13 (oSet (xMove g0) p14 
(oSet (xNil g14) p15 
(oSet (xLook (lkFieldAddr (nat_lit 4) g15)) p16 
(oSet (xLook (lkLoad1 g16)) p17 
(oSet (xLook (lkBuild q40 [((nat_lit 0), (nat_lit 1), q43), ((nat_lit 1), (nat_lit 1), g17)])) p18 
(oDo (xTurn (tnStore (nat_lit 2) g3 g18)) 
oEnd)))))) kSkip)) (kSeq (oSet (xLook (lkLoadN (nat_lit 2) g3)) p19 
(oDo (xTurn (tnStore (nat_lit 2) g2 g19)) 
oEnd)) kRet))))⟩
def q188 : OpdF := kC (.func (.func (nat_lit 227)) ⟨[]⟩ ⟨[]⟩)
def q189 : OpdF := kC (.func (.func (nat_lit 228)) ⟨[]⟩ ⟨[]⟩)
noncomputable def k161 : KFun := ⟨[rTmp (nat_lit 2) g2], (kSeq (oSet (xMove q0) p2 
oEnd) (kSeq (oSet (xMove g0) p4 
(oSet (xCall q188 [g4, q189]) p5 
oEnd)) (kSeq (kSeq (oSet (xMove q14) p3 
oEnd) (kBlock (nat_lit 0) (kLoop (kSeq (kSeq (oSet (xMove g3) p6 
(oSet (xMove g0) p7 
(oSet (xLook (lkLen .sl g7)) p8 
(oSet (xLook (lkBin .lss g6 g8)) p9 
oEnd)))) (kCond g9 kSkip (kExit (nat_lit 0)))) (kSeq (kBlock (nat_lit 1) (kSeq (kDraw 
(dLook (nat_lit 0) [] [] (lkMove g0) p12 
(dLook (nat_lit 1) [] [] (lkMove g3) p13 
(dLook (nat_lit 2) [] [] (lkBin .sub g13 q14) p14 
(dLook (nat_lit 3) [] [] (lkIxSl (nat_lit 2) g12 g14) p15 
(dLook (nat_lit 4) [] [] (lkFieldAddr (nat_lit 0) g15) p16 
(dLook (nat_lit 5) [] [] (lkLoad1 g16) p17 
(dLook (nat_lit 6) [] [] (lkMove g0) p18 
(dLook (nat_lit 7) [] [] (lkMove g3) p19 
(dLook (nat_lit 8) [] [] (lkBin .sub g19 q14) p20 
(dLook (nat_lit 9) [] [] (lkIxSl (nat_lit 2) g18 g20) p21 
(dLook (nat_lit 10) [] [] (lkLoadN (nat_lit 2) g21) p22 
(dTurn (nat_lit 11) [(nat_lit 5)] [] true (xCall q49 [g22]) p23 
(dLook (nat_lit 12) [] [(nat_lit 11)] (lkBin .add g17 g23) p24 
(dLook (nat_lit 13) [] [] (lkMove g0) p25 
(dLook (nat_lit 14) [] [] (lkMove g3) p26 
(dLook (nat_lit 15) [] [] (lkIxSl (nat_lit 2) g25 g26) p27 
(dLook (nat_lit 16) [] [] (lkFieldAddr (nat_lit 0) g27) p28 
(dLook (nat_lit 17) [(nat_lit 11)] [] (lkLoad1 g28) p29 
(dLook (nat_lit 18) [] [(nat_lit 11)] (lkBin .gtr g24 g29) p30 (dEnd [(nat_lit 12), (nat_lit 13), (nat_lit 14), (nat_lit 15), (nat_lit 16), (nat_lit 17), (nat_lit 18), (nat_lit 19), (nat_lit 20), (nat_lit 21), (nat_lit 22), (nat_lit 23), (nat_lit 24), (nat_lit 25), (nat_lit 26), (nat_lit 27), (nat_lit 28), (nat_lit 29), (nat_lit 30)]))))))))))))))))))))) (kCond g30 (kSeq (oSet (xMove q0) p2 
oEnd) kRet) kSkip))) (oSet (xMove g3) p10 
(oSet (xLook (lkBin .add g10 q14)) p11 
(oSet (xMove g11) p3 
oEnd)))))))) (kSeq (oSet (xMove q13) p2 
oEnd) kRet))))⟩
noncomputable def k162 : KFun := ⟨[rTmp (nat_lit 4) g4], (kSeq (oSet (xMove q6) p4 
oEnd) (kSeq (kSeq (oSet (xMove g0) p6 
(oSet (xLook (lkLen .sl g6)) p7 
(oSet (xMove q6) p8 
oEnd))) (kBlock (nat_lit 0) (kLoop (kSeq (oSet (xLook (lkBin .lss g8 g7)) p9 
oEnd) (kSeq (kCond g9 kSkip (kExit (nat_lit 0))) (kSeq (kBlock (nat_lit 1) (kSeq (oSet (xMove g8) p10 
(oSet (xMove g10) p5 
oEnd)) (kSeq (oSet (xMove g1) p11 
(oSet (xMove g0) p12 
(oSet (xMove g5) p13 
(oSet (xLook (lkIxSl (nat_lit 35) g12 g13)) p14 
(oSet (xLook (lkLoadN (nat_lit 35) g14)) p15 
(oSet (xCall g11 [g15]) p16 
oEnd)))))) (kCond g16 (kSeq (oSet (xMove g5) p17 
(oSet (xMove g17) p4 
oEnd)) kRet) kSkip)))) (oSet (xLook (lkBin .add g8 q14)) p18 
(oSet (xMove g18) p8 
oEnd)))))))) (kSeq (oSet (xMove q79) p4 
oEnd) kRet)))⟩
noncomputable def k163 : KFun := ⟨[rTmp (nat_lit 3) g3], (kSeq (oSet (xTurn (tnBox g0)) p2 
(oSet (xMove q0) p3 
oEnd)) (kSeq (oSet (xLook (lkFieldAddr (nat_lit 2) g2)) p4 
(oSet (xLook (lkLoadN (nat_lit 32) g4)) p5 
(oSet (xLook (lkLoadN (nat_lit 32) g1)) p6 
(oSet (xLook (lkEq false (.flat [(.int .u8), (.int .u8), (.int .u8), (.int .u8), (.int .u8), (.int .u8), (.int .u8), (.int .u8), (.int .u8), (.int .u8), (.int .u8), (.int .u8), (.int .u8), (.int .u8), (.int .u8), (.int .u8), (.int .u8), (.int .u8), (.int .u8), (.int .u8), (.int .u8), (.int .u8), (.int .u8), (.int .u8), (.int .u8), (.int .u8), (.int .u8), (.int .u8), (.int .u8), (.int .u8), (.int .u8), (.int .u8)]) g5 g6)) p7 
(oSet (xMove g7) p3 
oEnd))))) kRet))⟩
def q190 : OpdF := kC (.func (.func (nat_lit 229)) ⟨[]⟩ ⟨[]⟩)
noncomputable def k164 : KFun := ⟨[rTmp (nat_lit 2) g2], (kSeq (oSet (xMove q6) p2 
oEnd) (kSeq (oSet (xMove q79) p3 
oEnd) (kSeq (kSeq (oSet (xMove g0) p6 
(oSet (xLook (lkLen .sl g6)) p7 
(oSet (xMove q6) p8 
oEnd))) (kBlock (nat_lit 0) (kLoop (kSeq (oSet (xLook (lkBin .lss g8 g7)) p9 
oEnd) (kSeq (kCond g9 kSkip (kExit (nat_lit 0))) (kSeq (kBlock (nat_lit 1) (kSeq (oSet (xLook (lkIxSl (nat_lit 2) g6 g8)) p10 
(oSet (xLook (lkLoadN (nat_lit 2) g10)) p11 
(oSet (xTurn (tnAlloc q40)) p5 
(oDo (xTurn (tnStore (nat_lit 2) g5 g11)) 
oEnd)))) (kSeq (kSeq (oSet (xLook (lkFieldAddr (nat_lit 1) g5)) p12 
(oSet (xLook (lkLoad1 g12)) p13 
(oSet (xLook (lkBin .lss g13 q14)) p14 
(oSet (xMove g14) p15 
(oSetIf (wantF g15) (xLook (lkFieldAddr (nat_lit 0) g5)) p16 
(oSetIf (wantF g15) (xLook (lkLoad1 g16)) p17 
(oSetIf (wantF g15) (xMove g3) p18 
(oSetIf (wantF g15) (xLook (lkBin .leq g17 g18)) p19 
(oSet (xLook (lkPick g15 q13 g19)) p20 
(oSet (xMove g20) p21 
(oSetIf (wantF g21) (xLook (lkFieldAddr (nat_lit 0) g5)) p22 
(oSetIf (wantF g21) (xLook (lkLoad1 g22)) p23 
(oSetIf (wantF g21) (xLook (lkBin .lss g23 q6)) p24 
(oSet (xLook (lkPick g21 q13 g24)) p25 
(oSet (xMove g25) p26 
(oSetIf (wantF g26) (xLook (lkFieldAddr (nat_lit 0) g5)) p27 
(oSetIf (wantF g26) (xLook (lkLoad1 g27)) p28 
(oSetIf (wantF g26) (xLook (lkBin .gtr g28 q68)) p29 
(oSet (xLook (lkPick g26 q13 g29)) p30 
(oSet (xMove g30) p31 
(oSetIf (wantF g31) (xLook (lkFieldAddr (nat_lit 1) g5)) p32 
(oSetIf (wantF g31) (xLook (lkLoad1 g32)) p33 
(oSetIf (wantF g31) (xLook (lkFieldAddr (nat_lit 0) g5)) p34 
(oSetIf (wantF g31) (xLook (lkLoad1 g34)) p35 
(oSetIf (wantF g31) (xLook (lkBin .sub q68 g35)) p36 
(oSetIf (wantF g31) (xLook (lkBin .gtr g33 g36)) p37 
(oSet (xLook (lkPick g31 q13 g37)) p38 
oEnd))))))))))))))))))))))))))) (kCond g38 (kSeq (oSet (xMove q7) p2 
oEnd) kRet) kSkip)) (oSet (xLook (lkLoadN (nat_lit 2) g5)) p39 
(oSet (xCall q190 [g39]) p40 
(oSet (xMove g40) p3 
oEnd)))))) (oSet (xLook (lkBin .add g8 q14)) p41 
(oSet (xMove g41) p8 
oEnd)))))))) (kSeq (oSet (xMove q6) p2 
oEnd) kRet))))⟩
def q191 : OpdF := kC (.func (.func (nat_lit 166)) ⟨[]⟩ ⟨[]⟩)
noncomputable def k165 : KFun := ⟨[], (kSeq (oSet (xTurn (tnBox g0)) p2 
oEnd) (kSeq (oSet (xLook (lkLoadN (nat_lit 2) g2)) p4 
(oSet (xCall q49 [g4]) p5 
(oSet (xMove g5) p3 
oEnd))) (kSeq (oSet (xMove g3) p6 
(oSet (xLook (lkBin .gtr g6 q6)) p7 
(oSet (xMove g7) p8 
(oSetIf (wantT g8) (xLook (lkFieldAddr (nat_lit 0) g2)) p9 
(oSetIf (wantT g8) (xLook (lkLoad1 g9)) p10 
(oSetIf (wantT g8) (xLook (lkBin .gtr g10 q6)) p11 
(oSet (xLook (lkPick g8 g11 q0)) p12 
oEnd))))))) (kCond g12 (oSet (xLook (lkLoad1 g1)) p14 
(oSet (xLook (lkFieldAddr (nat_lit 0) g2)) p15 
(oSet (xLook (lkLoad1 g15)) p16 
(oSet (xMove g3) p17 
(oSet (xCall q191 [g14, g16, g17]) p18 
(oSet (xMove g18) p13 
(oSet (xLook (lkExtract (nat_lit 0) g13)) p19 
(oSet (xLook (lkExtract (nat_lit 1) g13)) p20 
(oDo (xTurn (tnStore (nat_lit 1) g1 g19)) 
oEnd))))))))) kSkip))))⟩
def q192 : OpdF := kC (.func (.func (nat_lit 230)) ⟨[]⟩ ⟨[]⟩)
def q193 : OpdF := kC (.func (.func (nat_lit 231)) ⟨[]⟩ ⟨[]⟩)
noncomputable def k166 : KFun := ⟨[rTmp (nat_lit 6) g6, rTmp (nat_lit 7) g7], (kSeq (oSet (xMove q12) p6 
(oSet (xMove q6) p7 
oEnd)) (kSeq (kSeq (oSet (xMove g0) p9 
(oSet (xMove g1) p10 
(oSet (xMove g2) p11 
(oSet (xCall q192 [g9, g10, g11]) p12 
oEnd)))) (kCond g12 (kSeq (oSet (xMove q12) p6 
(oSet (xMove q7) p7 
oEnd)) kRet) kSkip)) (kSeq (oSet (xMove g0) p13 
(oSet (xMove g1) p14 
(oSet (xCall q193 [g13, g14]) p15 
(oSet (xMove g15) p8 
oEnd)))) (kSeq (kSeq (oSet (xMove g8) p16 
(oSet (xMove g0) p17 
(oSet (xLook (lkLen .sl g17)) p18 
(oSet (xLook (lkEq false .int g16 g18)) p19 
(oSet (xMove g19) p20 
(oSetIf (wantF g20) (xMove g0) p21 
(oSetIf (wantF g20) (xMove g8) p22 
(oSetIf (wantF g20) (xLook (lkIxSl (nat_lit 2) g21 g22)) p23 
(oSetIf (wantF g20) (xLook (lkFieldAddr (nat_lit 0) g23)) p24 
(oSetIf (wantF g20) (xLook (lkLoad1 g24)) p25 
(oSetIf (wantF g20) (xMove g1) p26 
(oSetIf (wantF g20) (xLook (lkBin .gtr g25 g26)) p27 
(oSet (xLook (lkPick g20 q13 g27)) p28 
(oSet (xMove g28) p29 
(oSetIf (wantF g29) (xMove g0) p30 
(oSetIf (wantF g29) (xMove g8) p31 
(oSetIf (wantF g29) (xLook (lkIxSl (nat_lit 2) g30 g31)) p32 
(oSetIf (wantF g29) (xLook (lkLoadN (nat_lit 2) g32)) p33 
(oSetIf (wantF g29) (xCall q190 [g33]) p34 
(oSetIf (wantF g29) (xMove g1) p35 
(oSetIf (wantF g29) (xMove g2) p36 
(oSetIf (wantF g29) (xLook (lkBin .add g35 g36)) p37 
(oSetIf (wantF g29) (xLook (lkBin .lss g34 g37)) p38 
(oSet (xLook (lkPick g29 q13 g38)) p39 
oEnd)))))))))))))))))))))))) (kCond g39 (kSeq (oSet (xMove q12) p6 
(oSet (xMove q159) p7 
oEnd)) kRet) kSkip)) (kSeq (oSet (xMove g0) p40 
(oSet (xMove g8) p41 
(oSet (xMove g1) p42 
(oSet (xMove g2) p43 
(oSet (xCall q171 [g40, g41, g42, g43]) p44 
(oSet (xMove g44) p6 
(oSet (xMove q6) p7 
oEnd))))))) kRet)))))⟩
def q194 : OpdF := kC (.func (.func (nat_lit 232)) ⟨[]⟩ ⟨[]⟩)
noncomputable def k167 : KFun := ⟨[rTmp (nat_lit 2) g2], (kSeq (oSet (xMove q12) p2 
oEnd) (kSeq (oSet (xMove g0) p3 
(oSet (xCall q194 [q12, g3]) p4 
(oSet (xMove g4) p2 
oEnd))) kRet))⟩
noncomputable def k168 : KFun := ⟨[], (kSeq (oSet (xLook (lkLoad1 g1)) p4 
(oSet (xTurn (tnRangeMap g4)) p5 
oEnd)) (kBlock (nat_lit 0) (kLoop (kSeq (oSet (xNextMap g5) p6 
(oSet (xLook (lkExtract (nat_lit 0) g6)) p7 
oEnd)) (kSeq (kCond g7 kSkip (kExit (nat_lit 0))) (kBlock (nat_lit 1) (kSeq (oSet (xLook (lkEntry g5)) p8 
(oSet (xLook (lkExtract (nat_lit 0) g8)) p9 
(oSet (xTurn (tnAlloc q9)) p3 
(oDo (xTurn (tnStore (nat_lit 32) g3 g9)) 
oEnd)))) (kSeq (oSet (xMove g0) p10 
(oSet (xLook (lkLoadN (nat_lit 32) g3)) p11 
(oSet (xCall g10 [g11]) p12 
(oSet (xLook (lkUn .not g12)) p13 
oEnd)))) (kCond g13 kRet kSkip)))))))))⟩
noncomputable def k195d0 : KD := 
(dLook (nat_lit 16) [] [(nat_lit 14)] (lkPick g21 g33 q0) p34 (dEnd [(nat_lit 18), (nat_lit 19), (nat_lit 20), (nat_lit 21), (nat_lit 22), (nat_lit 23), (nat_lit 24), (nat_lit 25), (nat_lit 26), (nat_lit 27), (nat_lit 28), (nat_lit 29), (nat_lit 30), (nat_lit 31), (nat_lit 32), (nat_lit 33), (nat_lit 34)]))
noncomputable def k195d1 : KD := 
(dIf [(nat_lit 14)] (wantT g21) p33 (dLook (nat_lit 15) [] [(nat_lit 14)] (lkBin .lss g32 q6) p33 k195d0) k195d0)
noncomputable def k195d2 : KD := 
(dIf [] (wantT g21) p32 (dTurn (nat_lit 14) [] [] true (xCall g22 [g26, g31]) p32 k195d1) k195d1)
noncomputable def k195d3 : KD := 
(dIf [] (wantT g21) p31 (dLook (nat_lit 13) [] [] (lkLoadN (nat_lit 32) g30) p31 k195d2) k195d2)
noncomputable def k195d4 : KD := 
(dIf [] (wantT g21) p30 (dLook (nat_lit 12) [] [] (lkIxSl (nat_lit 32) g27 g29) p30 k195d3) k195d3)
noncomputable def k195d5 : KD := 
(dIf [] (wantT g21) p29 (dLook (nat_lit 11) [] [] (lkBin .sub g28 q14) p29 k195d4) k195d4)
noncomputable def k195d6 : KD := 
(dIf [] (wantT g21) p28 (dLook (nat_lit 10) [] [] (lkMove g9) p28 k195d5) k195d5)
noncomputable def k195d7 : KD := 
(dIf [] (wantT g21) p27 (dLook (nat_lit 9) [] [] (lkMove g0) p27 k195d6) k195d6)
noncomputable def k195d8 : KD := 
(dIf [] (wantT g21) p26 (dLook (nat_lit 8) [] [] (lkLoadN (nat_lit 32) g25) p26 k195d7) k195d7)
noncomputable def k195d9 : KD := 
(dIf [] (wantT g21) p25 (dLook (nat_lit 7) [] [] (lkIxSl (nat_lit 32) g23 g24) p25 k195d8) k195d8)
noncomputable def k195d10 : KD := 
(dIf [] (wantT g21) p24 (dLook (nat_lit 6) [] [] (lkMove g9) p24 k195d9) k195d9)
noncomputable def k195d11 : KD := 
(dIf [] (wantT g21) p23 (dLook (nat_lit 5) [] [] (lkMove g0) p23 k195d10) k195d10)
noncomputable def k195 : KFun := ⟨[], (kSeq (oSet (xMove g1) p10 
(oSet (xLook (lkBin .add g10 q14)) p11 
(oSet (xMove g11) p8 
oEnd))) (kBlock (nat_lit 0) (kLoop (kSeq (kSeq (oSet (xMove g8) p12 
(oSet (xMove g2) p13 
(oSet (xLook (lkBin .lss g12 g13)) p14 
oEnd))) (kCond g14 kSkip (kExit (nat_lit 0)))) (kSeq (kBlock (nat_lit 1) (kSeq (oSet (xMove g8) p17 
(oSet (xMove g17) p9 
oEnd)) (kBlock (nat_lit 2) (kLoop (kSeq (kSeq (kDraw 
(dLook (nat_lit 0) [] [] (lkMove g9) p18 
(dLook (nat_lit 1) [] [] (lkMove g1) p19 
(dLook (nat_lit 2) [] [] (lkBin .gtr g18 g19) p20 
(dLook (nat_lit 3) [] [] (lkMove g20) p21 
(dIf [] (wantT g21) p22 (dLook (nat_lit 4) [] [] (lkMove g3) p22 k195d11) k195d11)))))) (kCond g34 kSkip (kExit (nat_lit 2)))) (kSeq (kBlock (nat_lit 3) (kDraw 
(dLook (nat_lit 0) [] [] (lkMove g0) p37 
(dLook (nat_lit 1) [] [] (lkMove g9) p38 
(dLook (nat_lit 2) [] [] (lkMove g0) p39 
(dLook (nat_lit 3) [] [] (lkMove g9) p40 
(dLook (nat_lit 4) [] [] (lkBin .sub g40 q14) p41 
(dLook (nat_lit 5) [] [] (lkMove g0) p42 
(dLook (nat_lit 6) [] [] (lkMove g9) p43 
(dLook (nat_lit 7) [] [] (lkBin .sub g43 q14) p44 
(dLook (nat_lit 8) [] [] (lkIxSl (nat_lit 32) g42 g44) p45 
(dLook (nat_lit 9) [] [] (lkLoadN (nat_lit 32) g45) p46 
(dLook (nat_lit 10) [] [] (lkMove g0) p47 
(dLook (nat_lit 11) [] [] (lkMove g9) p48 
(dLook (nat_lit 12) [] [] (lkIxSl (nat_lit 32) g47 g48) p49 
(dLook (nat_lit 13) [] [] (lkLoadN (nat_lit 32) g49) p50 
(dLook (nat_lit 14) [] [] (lkIxSl (nat_lit 32) g37 g38) p51 
(dTurn (nat_lit 15) [] [] true (xTurn (tnStore (nat_lit 32) g51 g46)) noDst 
(dLook (nat_lit 16) [] [(nat_lit 15)] (lkIxSl (nat_lit 32) g39 g41) p52 
(dTurn (nat_lit 17) [] [(nat_lit 15)] true (xTurn (tnStore (nat_lit 32) g52 g50)) noDst (dEnd [(nat_lit 37), (nat_lit 38), (nat_lit 39), (nat_lit 40), (nat_lit 41), (nat_lit 42), (nat_lit 43), (nat_lit 44), (nat_lit 45), (nat_lit 46), (nat_lit 47), (nat_lit 48), (nat_lit 49), (nat_lit 50), (nat_lit 51), (nat_lit 52)]))))))))))))))))))))) (oSet (xMove g9) p35 
(oSet (xLook (lkBin .sub g35 q14)) p36 
(oSet (xMove g36) p9 
oEnd))))))))) (oSet (xMove g8) p15 
(oSet (xLook (lkBin .add g15 q14)) p16 
(oSet (xMove g16) p8 
oEnd))))))))⟩
def q195 : OpdF := kC (.func (.func (nat_lit 256)) ⟨[]⟩ ⟨[]⟩)
noncomputable def k196 : KFun := ⟨[], (kSeq (oSet (xMove g1) p13 
(oSet (xMove g13) p8 
oEnd)) (kSeq (oSet (xMove q6) p9 
oEnd) (kSeq (oSet (xMove g2) p14 
(oSet (xMove g1) p15 
(oSet (xLook (lkBin .sub g14 g15)) p16 
(oSet (xMove g16) p10 
oEnd)))) (kSeq (kSeq (oSet (xMove g10) p17 
(oSet (xLook (lkBin .sub g17 q14)) p18 
(oSet (xLook (lkBin .quo g18 q7)) p19 
(oSet (xMove g19) p11 
oEnd)))) (kBlock (nat_lit 0) (kLoop (kSeq (kSeq (oSet (xMove g11) p20 
(oSet (xLook (lkBin .geq g20 q6)) p21 
oEnd)) (kCond g21 kSkip (kExit (nat_lit 0)))) (kSeq (kBlock (nat_lit 1) (oSet (xMove g0) p24 
(oSet (xMove g11) p25 
(oSet (xMove g10) p26 
(oSet (xMove g8) p27 
(oSet (xMove g3) p28 
(oSet (xCall q195 [g24, g25, g26, g27, g28]) p29 
oEnd))))))) (oSet (xMove g11) p22 
(oSet (xLook (lkBin .sub g22 q14)) p23 
(oSet (xMove g23) p11 
oEnd)))))))) (kSeq (oSet (xMove g10) p30 
(oSet (xLook (lkBin .sub g30 q14)) p31 
(oSet (xMove g31) p12 
oEnd))) (kBlock (nat_lit 2) (kLoop (kSeq (kSeq (oSet (xMove g12) p32 
(oSet (xLook (lkBin .geq g32 q6)) p33 
oEnd)) (kCond g33 kSkip (kExit (nat_lit 2)))) (kSeq (kBlock (nat_lit 3) (kSeq (kDraw 
(dLook (nat_lit 0) [] [] (lkMove g0) p36 
(dLook (nat_lit 1) [] [] (lkMove g8) p37 
(dLook (nat_lit 2) [] [] (lkMove g0) p38 
(dLook (nat_lit 3) [] [] (lkMove g8) p39 
(dLook (nat_lit 4) [] [] (lkMove g12) p40 
(dLook (nat_lit 5) [] [] (lkBin .add g39 g40) p41 
(dLook (nat_lit 6) [] [] (lkMove g0) p42 
(dLook (nat_lit 7) [] [] (lkMove g8) p43 
(dLook (nat_lit 8) [] [] (lkMove g12) p44 
(dLook (nat_lit 9) [] [] (lkBin .add g43 g44) p45 
(dLook (nat_lit 10) [] [] (lkIxSl (nat_lit 32) g42 g45) p46 
(dLook (nat_lit 11) [] [] (lkLoadN (nat_lit 32) g46) p47 
(dLook (nat_lit 12) [] [] (lkMove g0) p48 
(dLook (nat_lit 13) [] [] (lkMove g8) p49 
(dLook (nat_lit 14) [] [] (lkIxSl (nat_lit 32) g48 g49) p50 
(dLook (nat_lit 15) [] [] (lkLoadN (nat_lit 32) g50) p51 
(dLook (nat_lit 16) [] [] (lkIxSl (nat_lit 32) g36 g37) p52 
(dTurn (nat_lit 17) [] [] true (xTurn (tnStore (nat_lit 32) g52 g47)) noDst 
(dLook (nat_lit 18) [] [(nat_lit 17)] (lkIxSl (nat_lit 32) g38 g41) p53 
(dTurn (nat_lit 19) [] [(nat_lit 17)] true (xTurn (tnStore (nat_lit 32) g53 g51)) noDst (dEnd [(nat_lit 36), (nat_lit 37), (nat_lit 38), (nat_lit 39), (nat_lit 40), (nat_lit 41), (nat_lit 42), (nat_lit 43), (nat_lit 44), (nat_lit 45), (nat_lit 46), (nat_lit 47), (nat_lit 48), (nat_lit 49), (nat_lit 50), (nat_lit 51), (nat_lit 52), (nat_lit 53)])))))))))))))))))))))) (oSet (xMove g0) p54 
(oSet (xMove g9) p55 
(oSet (xMove g12) p56 
(oSet (xMove g8) p57 
(oSet (xMove g3) p58 
(oSet (xCall q195 [g54, g55, g56, g57, g58]) p59 
oEnd)))))))) (oSet (xMove g12) p34 
(oSet (xLook (lkBin .sub g34 q14)) p35 
(oSet (xMove g35) p12 
oEnd))))))))))))⟩
def q196 : List Value := [(.int .u64 (.ofNat (nat_lit 0)))]
def q197 : OpdF := kC (.func (.func (nat_lit 257)) ⟨[]⟩ ⟨[]⟩)
def q198 : OpdF := kC (.func (.func (nat_lit 258)) ⟨[]⟩ ⟨[]⟩)
def q199 : OpdF := kC (.int .u64 (.ofNat (nat_lit 1)))
noncomputable def k197 : KFun := ⟨[], (kSeq (oSet (xMove g2) p13 
(oSet (xMove g1) p14 
(oSet (xLook (lkBin .sub g13 g14)) p15 
(oSet (xMove g15) p8 
oEnd)))) (kSeq (oSet (xMove g8) p16 
(oSet (xLook (lkBin .geq g16 q44)) p17 
oEnd)) (kCond g17 (kSeq (oSet (xMove g8) p18 
(oSet (xLook (lkIntTo .u64 g18)) p19 
(oSet (xTurn (tnAlloc q196)) p9 
(oDo (xTurn (tnStore (nat_lit 1) g9 g19)) 
oEnd)))) (kSeq (oSet (xMove g8) p20 
(oSet (xCall q197 [g20]) p21 
(oSet (xMove g21) p10 
oEnd))) (kSeq (oSet (xMove g1) p22 
(oSet (xMove g8) p23 
(oSet (xLook (lkBin .quo g23 q43)) p24 
(oSet (xLook (lkBin .mul g24 q7)) p25 
(oSet (xLook (lkBin .add g22 g25)) p26 
(oSet (xLook (lkBin .sub g26 q14)) p27 
(oSet (xMove g27) p11 
oEnd))))))) (kBlock (nat_lit 0) (kLoop (kSeq (kSeq (oSet (xMove g11) p28 
(oSet (xMove g1) p29 
(oSet (xMove g8) p30 
(oSet (xLook (lkBin .quo g30 q43)) p31 
(oSet (xLook (lkBin .mul g31 q7)) p32 
(oSet (xLook (lkBin .add g29 g32)) p33 
(oSet (xLook (lkBin .add g33 q14)) p34 
(oSet (xLook (lkBin .leq g28 g34)) p35 
oEnd)))))))) (kCond g35 kSkip (kExit (nat_lit 0)))) (kSeq (kBlock (nat_lit 1) (kSeq (oSet (xCall q198 [g9]) p38 
(oSet (xMove g10) p39 
(oSet (xLook (lkBin .sub g39 q199)) p40 
(oSet (xLook (lkBin .and g38 g40)) p41 
(oSet (xLook (lkIntTo .i64 g41)) p42 
(oSet (xMove g42) p12 
oEnd)))))) (kSeq (kSeq (oSet (xMove g12) p43 
(oSet (xMove g8) p44 
(oSet (xLook (lkBin .geq g43 g44)) p45 
oEnd))) (kCond g45 (oSet (xMove g12) p46 
(oSet (xMove g8) p47 
(oSet (xLook (lkBin .sub g46 g47)) p48 
(oSet (xMove g48) p12 
oEnd)))) kSkip)) (kDraw 
(dLook (nat_lit 0) [] [] (lkMove g0) p49 
(dLook (nat_lit 1) [] [] (lkMove g11) p50 
(dLook (nat_lit 2) [] [] (lkMove g0) p51 
(dLook (nat_lit 3) [] [] (lkMove g1) p52 
(dLook (nat_lit 4) [] [] (lkMove g12) p53 
(dLook (nat_lit 5) [] [] (lkBin .add g52 g53) p54 
(dLook (nat_lit 6) [] [] (lkMove g0) p55 
(dLook (nat_lit 7) [] [] (lkMove g1) p56 
(dLook (nat_lit 8) [] [] (lkMove g12) p57 
(dLook (nat_lit 9) [] [] (lkBin .add g56 g57) p58 
(dLook (nat_lit 10) [] [] (lkIxSl (nat_lit 32) g55 g58) p59 
(dLook (nat_lit 11) [] [] (lkLoadN (nat_lit 32) g59) p60 
(dLook (nat_lit 12) [] [] (lkMove g0) p61 
(dLook (nat_lit 13) [] [] (lkMove g11) p62 
(dLook (nat_lit 14) [] [] (lkIxSl (nat_lit 32) g61 g62) p63 
(dLook (nat_lit 15) [] [] (lkLoadN (nat_lit 32) g63) p64 
(dLook (nat_lit 16) [] [] (lkIxSl (nat_lit 32) g49 g50) p65 
(dTurn (nat_lit 17) [] [] true (xTurn (tnStore (nat_lit 32) g65 g60)) noDst 
(dLook (nat_lit 18) [] [(nat_lit 17)] (lkIxSl (nat_lit 32) g51 g54) p66 
(dTurn (nat_lit 19) [] [(nat_lit 17)] true (xTurn (tnStore (nat_lit 32) g66 g64)) noDst (dEnd [(nat_lit 49), (nat_lit 50), (nat_lit 51), (nat_lit 52), (nat_lit 53), (nat_lit 54), (nat_lit 55), (nat_lit 56), (nat_lit 57), (nat_lit 58), (nat_lit 59), (nat_lit 60), (nat_lit 61), (nat_lit 62), (nat_lit 63), (nat_lit 64), (nat_lit 65), (nat_lit 66)]))))))))))))))))))))))))) (oSet (xMove g11) p36 
(oSet (xLook (lkBin .add g36 q14)) p37 
(oSet (xMove g37) p11 
oEnd)))))))))) kSkip)))⟩
def q200 : OpdF := kC (.int .i64 (.ofNat (nat_lit 50)))
def q201 : OpdF := kC (.func (.func (nat_lit 259)) ⟨[]⟩ ⟨[]⟩)
def q202 : OpdF := kC (.func (.func (nat_lit 260)) ⟨[]⟩ ⟨[]⟩)
noncomputable def k198 : KFun := ⟨[rTmp (nat_lit 8) g8, rTmp (nat_lit 9) g9], (kSeq (oSet (xMove q6) p8 
(oSet (xMove q6) p9 
oEnd)) (kSeq (oSet (xMove g2) p15 
(oSet (xMove g1) p16 
(oSet (xLook (lkBin .sub g15 g16)) p17 
(oSet (xMove g17) p10 
oEnd)))) (kSeq (oSet (xTurn (tnAlloc q175)) p11 
oEnd) (kSeq (oSet (xMove g1) p18 
(oSet (xMove g10) p19 
(oSet (xLook (lkBin .quo g19 q43)) p20 
(oSet (xLook (lkBin .mul g20 q14)) p21 
(oSet (xLook (lkBin .add g18 g21)) p22 
(oSet (xMove g22) p12 
oEnd)))))) (kSeq (oSet (xMove g1) p23 
(oSet (xMove g10) p24 
(oSet (xLook (lkBin .quo g24 q43)) p25 
(oSet (xLook (lkBin .mul g25 q7)) p26 
(oSet (xLook (lkBin .add g23 g26)) p27 
(oSet (xMove g27) p13 
oEnd)))))) (kSeq (oSet (xMove g1) p28 
(oSet (xMove g10) p29 
(oSet (xLook (lkBin .quo g29 q43)) p30 
(oSet (xLook (lkBin .mul g30 q69)) p31 
(oSet (xLook (lkBin .add g28 g31)) p32 
(oSet (xMove g32) p14 
oEnd)))))) (kSeq (kSeq (oSet (xMove g10) p33 
(oSet (xLook (lkBin .geq g33 q44)) p34 
oEnd)) (kCond g34 (kSeq (kSeq (oSet (xMove g10) p35 
(oSet (xLook (lkBin .geq g35 q200)) p36 
oEnd)) (kCond g36 (kSeq (oSet (xMove g0) p37 
(oSet (xMove g12) p38 
(oSet (xMove g3) p39 
(oSet (xCall q201 [g37, g38, g11, g39]) p40 
(oSet (xMove g40) p12 
oEnd))))) (kSeq (oSet (xMove g0) p41 
(oSet (xMove g13) p42 
(oSet (xMove g3) p43 
(oSet (xCall q201 [g41, g42, g11, g43]) p44 
(oSet (xMove g44) p13 
oEnd))))) (oSet (xMove g0) p45 
(oSet (xMove g14) p46 
(oSet (xMove g3) p47 
(oSet (xCall q201 [g45, g46, g11, g47]) p48 
(oSet (xMove g48) p14 
oEnd))))))) kSkip)) (oSet (xMove g0) p49 
(oSet (xMove g12) p50 
(oSet (xMove g13) p51 
(oSet (xMove g14) p52 
(oSet (xMove g3) p53 
(oSet (xCall q202 [g49, g50, g51, g52, g11, g53]) p54 
(oSet (xMove g54) p13 
oEnd)))))))) kSkip)) (kSeq (oSet (xLook (lkLoad1 g11)) p55 
oEnd) (kBlock (nat_lit 0) (kSeq (oSet (xLook (lkEq false .int g55 q6)) p58 
(oSet (xMove g58) p57 
oEnd)) (kCond g57 (kSeq (oSet (xMove g13) p59 
(oSet (xMove g59) p8 
(oSet (xMove q14) p9 
oEnd))) kRet) (kSeq (oSet (xLook (lkEq false .int g55 q131)) p61 
(oSet (xMove g61) p60 
oEnd)) (kCond g60 (kSeq (oSet (xMove g13) p62 
(oSet (xMove g62) p8 
(oSet (xMove q7) p9 
oEnd))) kRet) (kSeq (oSet (xMove g13) p56 
(oSet (xMove g56) p8 
(oSet (xMove q6) p9 
oEnd))) kRet))))))))))))))⟩
noncomputable def k199 : KFun := ⟨[], (kSeq (oSet (xMove g1) p10 
(oSet (xMove g10) p8 
oEnd)) (kSeq (oSet (xMove g2) p11 
(oSet (xLook (lkBin .sub g11 q14)) p12 
(oSet (xMove g12) p9 
oEnd))) (kBlock (nat_lit 0) (kLoop (kSeq (kSeq (oSet (xMove g8) p13 
(oSet (xMove g9) p14 
(oSet (xLook (lkBin .lss g13 g14)) p15 
oEnd))) (kCond g15 kSkip (kExit (nat_lit 0)))) (kBlock (nat_lit 1) (kSeq (kDraw 
(dLook (nat_lit 0) [] [] (lkMove g0) p16 
(dLook (nat_lit 1) [] [] (lkMove g8) p17 
(dLook (nat_lit 2) [] [] (lkMove g0) p18 
(dLook (nat_lit 3) [] [] (lkMove g9) p19 
(dLook (nat_lit 4) [] [] (lkMove g0) p20 
(dLook (nat_lit 5) [] [] (lkMove g9) p21 
(dLook (nat_lit 6) [] [] (lkIxSl (nat_lit 32) g20 g21) p22 
(dLook (nat_lit 7) [] [] (lkLoadN (nat_lit 32) g22) p23 
(dLook (nat_lit 8) [] [] (lkMove g0) p24 
(dLook (nat_lit 9) [] [] (lkMove g8) p25 
(dLook (nat_lit 10) [] [] (lkIxSl (nat_lit 32) g24 g25) p26 
(dLook (nat_lit 11) [] [] (lkLoadN (nat_lit 32) g26) p27 
(dLook (nat_lit 12) [] [] (lkIxSl (nat_lit 32) g16 g17) p28 
(dTurn (nat_lit 13) [] [] true (xTurn (tnStore (nat_lit 32) g28 g23)) noDst 
(dLook (nat_lit 14) [] [(nat_lit 13)] (lkIxSl (nat_lit 32) g18 g19) p29 
(dTurn (nat_lit 15) [] [(nat_lit 13)] true (xTurn (tnStore (nat_lit 32) g29 g27)) noDst (dEnd [(nat_lit 16), (nat_lit 17), (nat_lit 18), (nat_lit 19), (nat_lit 20), (nat_lit 21), (nat_lit 22), (nat_lit 23), (nat_lit 24), (nat_lit 25), (nat_lit 26), (nat_lit 27), (nat_lit 28), (nat_lit 29)])))))))))))))))))) (kSeq (oSet (xMove g8) p30 
(oSet (xLook (lkBin .add g30 q14)) p31 
(oSet (xMove g31) p8 
oEnd))) (oSet (xMove g9) p32 
(oSet (xLook (lkBin .sub g32 q14)) p33 
(oSet (xMove g33) p9 
oEnd)))))))))))⟩
noncomputable def k200d0 : KD := 
(dLook (nat_lit 17) [] [(nat_lit 14)] (lkPick g22 g35 q0) p36 (dEnd [(nat_lit 19), (nat_lit 20), (nat_lit 21), (nat_lit 22), (nat_lit 23), (nat_lit 24), (nat_lit 25), (nat_lit 26), (nat_lit 27), (nat_lit 28), (nat_lit 29), (nat_lit 30), (nat_lit 31), (nat_lit 32), (nat_lit 33), (nat_lit 34), (nat_lit 35), (nat_lit 36)]))
noncomputable def k200d1 : KD := 
(dIf [(nat_lit 14)] (wantT g22) p35 (dLook (nat_lit 16) [] [(nat_lit 14)] (lkUn .not g34) p35 k200d0) k200d0)
noncomputable def k200d2 : KD := 
(dIf [(nat_lit 14)] (wantT g22) p34 (dLook (nat_lit 15) [] [(nat_lit 14)] (lkBin .lss g33 q6) p34 k200d1) k200d1)
noncomputable def k200d3 : KD := 
(dIf [] (wantT g22) p33 (dTurn (nat_lit 14) [] [] true (xCall g23 [g27, g32]) p33 k200d2) k200d2)
noncomputable def k200d4 : KD := 
(dIf [] (wantT g22) p32 (dLook (nat_lit 13) [] [] (lkLoadN (nat_lit 32) g31) p32 k200d3) k200d3)
noncomputable def k200d5 : KD := 
(dIf [] (wantT g22) p31 (dLook (nat_lit 12) [] [] (lkIxSl (nat_lit 32) g28 g30) p31 k200d4) k200d4)
noncomputable def k200d6 : KD := 
(dIf [] (wantT g22) p30 (dLook (nat_lit 11) [] [] (lkBin .sub g29 q14) p30 k200d5) k200d5)
noncomputable def k200d7 : KD := 
(dIf [] (wantT g22) p29 (dLook (nat_lit 10) [] [] (lkMove g9) p29 k200d6) k200d6)
noncomputable def k200d8 : KD := 
(dIf [] (wantT g22) p28 (dLook (nat_lit 9) [] [] (lkMove g0) p28 k200d7) k200d7)
noncomputable def k200d9 : KD := 
(dIf [] (wantT g22) p27 (dLook (nat_lit 8) [] [] (lkLoadN (nat_lit 32) g26) p27 k200d8) k200d8)
noncomputable def k200d10 : KD := 
(dIf [] (wantT g22) p26 (dLook (nat_lit 7) [] [] (lkIxSl (nat_lit 32) g24 g25) p26 k200d9) k200d9)
noncomputable def k200d11 : KD := 
(dIf [] (wantT g22) p25 (dLook (nat_lit 6) [] [] (lkMove g9) p25 k200d10) k200d10)
noncomputable def k200d12 : KD := 
(dIf [] (wantT g22) p24 (dLook (nat_lit 5) [] [] (lkMove g0) p24 k200d11) k200d11)
noncomputable def k200 : KFun := ⟨[rTmp (nat_lit 8) g8], (kSeq (oSet (xMove q0) p8 
oEnd) (kSeq (oSet (xMove g1) p13 
(oSet (xLook (lkBin .add g13 q14)) p14 
(oSet (xMove g14) p9 
oEnd))) (kSeq (kSeq (oSet (xMove q6) p10 
oEnd) (kBlock (nat_lit 0) (kLoop (kSeq (kSeq (oSet (xMove g10) p15 
(oSet (xLook (lkBin .lss g15 q77)) p16 
oEnd)) (kCond g16 kSkip (kExit (nat_lit 0)))) (kSeq (kBlock (nat_lit 1) (kSeq (kBlock (nat_lit 2) (kLoop (kSeq (kSeq (kDraw 
(dLook (nat_lit 0) [] [] (lkMove g9) p19 
(dLook (nat_lit 1) [] [] (lkMove g2) p20 
(dLook (nat_lit 2) [] [] (lkBin .lss g19 g20) p21 
(dLook (nat_lit 3) [] [] (lkMove g21) p22 
(dIf [] (wantT g22) p23 (dLook (nat_lit 4) [] [] (lkMove g3) p23 k200d12) k200d12)))))) (kCond g36 kSkip (kExit (nat_lit 2)))) (kBlock (nat_lit 3) (oSet (xMove g9) p37 
(oSet (xLook (lkBin .add g37 q14)) p38 
(oSet (xMove g38) p9 
oEnd))))))) (kSeq (kSeq (oSet (xMove g9) p39 
(oSet (xMove g2) p40 
(oSet (xLook (lkEq false .int g39 g40)) p41 
oEnd))) (kCond g41 (kSeq (oSet (xMove q13) p8 
oEnd) kRet) kSkip)) (kSeq (kSeq (oSet (xMove g2) p42 
(oSet (xMove g1) p43 
(oSet (xLook (lkBin .sub g42 g43)) p44 
(oSet (xLook (lkBin .lss g44 q200)) p45 
oEnd)))) (kCond g45 (kSeq (oSet (xMove q0) p8 
oEnd) kRet) kSkip)) (kSeq (kDraw 
(dLook (nat_lit 0) [] [] (lkMove g0) p46 
(dLook (nat_lit 1) [] [] (lkMove g9) p47 
(dLook (nat_lit 2) [] [] (lkMove g0) p48 
(dLook (nat_lit 3) [] [] (lkMove g9) p49 
(dLook (nat_lit 4) [] [] (lkBin .sub g49 q14) p50 
(dLook (nat_lit 5) [] [] (lkMove g0) p51 
(dLook (nat_lit 6) [] [] (lkMove g9) p52 
(dLook (nat_lit 7) [] [] (lkBin .sub g52 q14) p53 
(dLook (nat_lit 8) [] [] (lkIxSl (nat_lit 32) g51 g53) p54 
(dLook (nat_lit 9) [] [] (lkLoadN (nat_lit 32) g54) p55 
(dLook (nat_lit 10) [] [] (lkMove g0) p56 
(dLook (nat_lit 11) [] [] (lkMove g9) p57 
(dLook (nat_lit 12) [] [] (lkIxSl (nat_lit 32) g56 g57) p58 
(dLook (nat_lit 13) [] [] (lkLoadN (nat_lit 32) g58) p59 
(dLook (nat_lit 14) [] [] (lkIxSl (nat_lit 32) g46 g47) p60 
(dTurn (nat_lit 15) [] [] true (xTurn (tnStore (nat_lit 32) g60 g55)) noDst 
(dLook (nat_lit 16) [] [(nat_lit 15)] (lkIxSl (nat_lit 32) g48 g50) p61 
(dTurn (nat_lit 17) [] [(nat_lit 15)] true (xTurn (tnStore (nat_lit 32) g61 g59)) noDst (dEnd [(nat_lit 46), (nat_lit 47), (nat_lit 48), (nat_lit 49), (nat_lit 50), (nat_lit 51), (nat_lit 52), (nat_lit 53), (nat_lit 54), (nat_lit 55), (nat_lit 56), (nat_lit 57), (nat_lit 58), (nat_lit 59), (nat_lit 60), (nat_lit 61)])))))))))))))))))))) (kSeq (kSeq (oSet (xMove g9) p62 
(oSet (xMove g1) p63 
(oSet (xLook (lkBin .sub g62 g63)) p64 
(oSet (xLook (lkBin .geq g64 q7)) p65 
oEnd)))) (kCond g65 (kSeq (oSet (xMove g9) p66 
(oSet (xLook (lkBin .sub g66 q14)) p67 
(oSet (xMove g67) p11 
oEnd))) (kBlock (nat_lit 4) (kLoop (kSeq (kSeq (oSet (xMove g11) p68 
(oSet (xLook (lkBin .geq g68 q14)) p69 
oEnd)) (kCond g69 kSkip (kExit (nat_lit 4)))) (kSeq (kBlock (nat_lit 5) (kSeq (kSeq (kDraw 
(dLook (nat_lit 0) [] [] (lkMove g3) p72 
(dLook (nat_lit 1) [] [] (lkMove g0) p73 
(dLook (nat_lit 2) [] [] (lkMove g11) p74 
(dLook (nat_lit 3) [] [] (lkIxSl (nat_lit 32) g73 g74) p75 
(dLook (nat_lit 4) [] [] (lkLoadN (nat_lit 32) g75) p76 
(dLook (nat_lit 5) [] [] (lkMove g0) p77 
(dLook (nat_lit 6) [] [] (lkMove g11) p78 
(dLook (nat_lit 7) [] [] (lkBin .sub g78 q14) p79 
(dLook (nat_lit 8) [] [] (lkIxSl (nat_lit 32) g77 g79) p80 
(dLook (nat_lit 9) [] [] (lkLoadN (nat_lit 32) g80) p81 
(dTurn (nat_lit 10) [] [] true (xCall g72 [g76, g81]) p82 
(dLook (nat_lit 11) [] [(nat_lit 10)] (lkBin .lss g82 q6) p83 
(dLook (nat_lit 12) [] [(nat_lit 10)] (lkUn .not g83) p84 (dEnd [(nat_lit 72), (nat_lit 73), (nat_lit 74), (nat_lit 75), (nat_lit 76), (nat_lit 77), (nat_lit 78), (nat_lit 79), (nat_lit 80), (nat_lit 81), (nat_lit 82), (nat_lit 83), (nat_lit 84)]))))))))))))))) (kCond g84 (kExit (nat_lit 4)) kSkip)) (kDraw 
(dLook (nat_lit 0) [] [] (lkMove g0) p85 
(dLook (nat_lit 1) [] [] (lkMove g11) p86 
(dLook (nat_lit 2) [] [] (lkMove g0) p87 
(dLook (nat_lit 3) [] [] (lkMove g11) p88 
(dLook (nat_lit 4) [] [] (lkBin .sub g88 q14) p89 
(dLook (nat_lit 5) [] [] (lkMove g0) p90 
(dLook (nat_lit 6) [] [] (lkMove g11) p91 
(dLook (nat_lit 7) [] [] (lkBin .sub g91 q14) p92 
(dLook (nat_lit 8) [] [] (lkIxSl (nat_lit 32) g90 g92) p93 
(dLook (nat_lit 9) [] [] (lkLoadN (nat_lit 32) g93) p94 
(dLook (nat_lit 10) [] [] (lkMove g0) p95 
(dLook (nat_lit 11) [] [] (lkMove g11) p96 
(dLook (nat_lit 12) [] [] (lkIxSl (nat_lit 32) g95 g96) p97 
(dLook (nat_lit 13) [] [] (lkLoadN (nat_lit 32) g97) p98 
(dLook (nat_lit 14) [] [] (lkIxSl (nat_lit 32) g85 g86) p99 
(dTurn (nat_lit 15) [] [] true (xTurn (tnStore (nat_lit 32) g99 g94)) noDst 
(dLook (nat_lit 16) [] [(nat_lit 15)] (lkIxSl (nat_lit 32) g87 g89) p100 
(dTurn (nat_lit 17) [] [(nat_lit 15)] true (xTurn (tnStore (nat_lit 32) g100 g98)) noDst (dEnd [(nat_lit 85), (nat_lit 86), (nat_lit 87), (nat_lit 88), (nat_lit 89), (nat_lit 90), (nat_lit 91), (nat_lit 92), (nat_lit 93), (nat_lit 94), (nat_lit 95), (nat_lit 96), (nat_lit 97), (nat_lit 98), (nat_lit 99), (nat_lit 100)])))))))))))))))))))))) (oSet (xMove g11) p70 
(oSet (xLook (lkBin .sub g70 q14)) p71 
(oSet (xMove g71) p11 
oEnd)))))))) kSkip)) (kSeq (oSet (xMove g2) p101 
(oSet (xMove g9) p102 
(oSet (xLook (lkBin .sub g101 g102)) p103 
(oSet (xLook (lkBin .geq g103 q7)) p104 
oEnd)))) (kCond g104 (kSeq (oSet (xMove g9) p105 
(oSet (xLook (lkBin .add g105 q14)) p106 
(oSet (xMove g106) p12 
oEnd))) (kBlock (nat_lit 6) (kLoop (kSeq (kSeq (oSet (xMove g12) p107 
(oSet (xMove g2) p108 
(oSet (xLook (lkBin .lss g107 g108)) p109 
oEnd))) (kCond g109 kSkip (kExit (nat_lit 6)))) (kSeq (kBlock (nat_lit 7) (kSeq (kSeq (kDraw 
(dLook (nat_lit 0) [] [] (lkMove g3) p112 
(dLook (nat_lit 1) [] [] (lkMove g0) p113 
(dLook (nat_lit 2) [] [] (lkMove g12) p114 
(dLook (nat_lit 3) [] [] (lkIxSl (nat_lit 32) g113 g114) p115 
(dLook (nat_lit 4) [] [] (lkLoadN (nat_lit 32) g115) p116 
(dLook (nat_lit 5) [] [] (lkMove g0) p117 
(dLook (nat_lit 6) [] [] (lkMove g12) p118 
(dLook (nat_lit 7) [] [] (lkBin .sub g118 q14) p119 
(dLook (nat_lit 8) [] [] (lkIxSl (nat_lit 32) g117 g119) p120 
(dLook (nat_lit 9) [] [] (lkLoadN (nat_lit 32) g120) p121 
(dTurn (nat_lit 10) [] [] true (xCall g112 [g116, g121]) p122 
(dLook (nat_lit 11) [] [(nat_lit 10)] (lkBin .lss g122 q6) p123 
(dLook (nat_lit 12) [] [(nat_lit 10)] (lkUn .not g123) p124 (dEnd [(nat_lit 112), (nat_lit 113), (nat_lit 114), (nat_lit 115), (nat_lit 116), (nat_lit 117), (nat_lit 118), (nat_lit 119), (nat_lit 120), (nat_lit 121), (nat_lit 122), (nat_lit 123), (nat_lit 124)]))))))))))))))) (kCond g124 (kExit (nat_lit 6)) kSkip)) (kDraw 
(dLook (nat_lit 0) [] [] (lkMove g0) p125 
(dLook (nat_lit 1) [] [] (lkMove g12) p126 
(dLook (nat_lit 2) [] [] (lkMove g0) p127 
(dLook (nat_lit 3) [] [] (lkMove g12) p128 
(dLook (nat_lit 4) [] [] (lkBin .sub g128 q14) p129 
(dLook (nat_lit 5) [] [] (lkMove g0) p130 
(dLook (nat_lit 6) [] [] (lkMove g12) p131 
(dLook (nat_lit 7) [] [] (lkBin .sub g131 q14) p132 
(dLook (nat_lit 8) [] [] (lkIxSl (nat_lit 32) g130 g132) p133 
(dLook (nat_lit 9) [] [] (lkLoadN (nat_lit 32) g133) p134 
(dLook (nat_lit 10) [] [] (lkMove g0) p135 
(dLook (nat_lit 11) [] [] (lkMove g12) p136 
(dLook (nat_lit 12) [] [] (lkIxSl (nat_lit 32) g135 g136) p137 
(dLook (nat_lit 13) [] [] (lkLoadN (nat_lit 32) g137) p138 
(dLook (nat_lit 14) [] [] (lkIxSl (nat_lit 32) g125 g126) p139 
(dTurn (nat_lit 15) [] [] true (xTurn (tnStore (nat_lit 32) g139 g134)) noDst 
(dLook (nat_lit 16) [] [(nat_lit 15)] (lkIxSl (nat_lit 32) g127 g129) p140 
(dTurn (nat_lit 17) [] [(nat_lit 15)] true (xTurn (tnStore (nat_lit 32) g140 g138)) noDst (dEnd [(nat_lit 125), (nat_lit 126), (nat_lit 127), (nat_lit 128), (nat_lit 129), (nat_lit 130), (nat_lit 131), (nat_lit 132), (nat_lit 133), (nat_lit 134), (nat_lit 135), (nat_lit 136), (nat_lit 137), (nat_lit 138), (nat_lit 139), (nat_lit 140)])))))))))))))))))))))) (oSet (xMove g12) p110 
(oSet (xLook (lkBin .add g110 q14)) p111 
(oSet (xMove g111) p12 
oEnd)))))))) kSkip)))))))) (oSet (xMove g10) p17 
(oSet (xLook (lkBin .add g17 q14)) p18 
(oSet (xMove g18) p10 
oEnd)))))))) (kSeq (oSet (xMove q0) p8 
oEnd) kRet))))⟩
noncomputable def k201d0 : KD := 
(dLook (nat_lit 16) [] [(nat_lit 13)] (lkPick g34 g46 q0) p47 (dEnd [(nat_lit 31), (nat_lit 32), (nat_lit 33), (nat_lit 34), (nat_lit 35), (nat_lit 36), (nat_lit 37), (nat_lit 38), (nat_lit 39), (nat_lit 40), (nat_lit 41), (nat_lit 42), (nat_lit 43), (nat_lit 44), (nat_lit 45), (nat_lit 46), (nat_lit 47)]))
noncomputable def k201d1 : KD := 
(dIf [(nat_lit 13)] (wantT g34) p46 (dLook (nat_lit 15) [] [(nat_lit 13)] (lkUn .not g45) p46 k201d0) k201d0)
noncomputable def k201d2 : KD := 
(dIf [(nat_lit 13)] (wantT g34) p45 (dLook (nat_lit 14) [] [(nat_lit 13)] (lkBin .lss g44 q6) p45 k201d1) k201d1)
noncomputable def k201d3 : KD := 
(dIf [] (wantT g34) p44 (dTurn (nat_lit 13) [] [] true (xCall g35 [g39, g43]) p44 k201d2) k201d2)
noncomputable def k201d4 : KD := 
(dIf [] (wantT g34) p43 (dLook (nat_lit 12) [] [] (lkLoadN (nat_lit 32) g42) p43 k201d3) k201d3)
noncomputable def k201d5 : KD := 
(dIf [] (wantT g34) p42 (dLook (nat_lit 11) [] [] (lkIxSl (nat_lit 32) g40 g41) p42 k201d4) k201d4)
noncomputable def k201d6 : KD := 
(dIf [] (wantT g34) p41 (dLook (nat_lit 10) [] [] (lkMove g11) p41 k201d5) k201d5)
noncomputable def k201d7 : KD := 
(dIf [] (wantT g34) p40 (dLook (nat_lit 9) [] [] (lkMove g0) p40 k201d6) k201d6)
noncomputable def k201d8 : KD := 
(dIf [] (wantT g34) p39 (dLook (nat_lit 8) [] [] (lkLoadN (nat_lit 32) g38) p39 k201d7) k201d7)
noncomputable def k201d9 : KD := 
(dIf [] (wantT g34) p38 (dLook (nat_lit 7) [] [] (lkIxSl (nat_lit 32) g36 g37) p38 k201d8) k201d8)
noncomputable def k201d10 : KD := 
(dIf [] (wantT g34) p37 (dLook (nat_lit 6) [] [] (lkMove g1) p37 k201d9) k201d9)
noncomputable def k201d11 : KD := 
(dIf [] (wantT g34) p36 (dLook (nat_lit 5) [] [] (lkMove g0) p36 k201d10) k201d10)
noncomputable def k201d12 : KD := 
(dLook (nat_lit 15) [] [(nat_lit 13)] (lkPick g53 g64 q0) p65 (dEnd [(nat_lit 50), (nat_lit 51), (nat_lit 52), (nat_lit 53), (nat_lit 54), (nat_lit 55), (nat_lit 56), (nat_lit 57), (nat_lit 58), (nat_lit 59), (nat_lit 60), (nat_lit 61), (nat_lit 62), (nat_lit 63), (nat_lit 64), (nat_lit 65)]))
noncomputable def k201d13 : KD := 
(dIf [(nat_lit 13)] (wantT g53) p64 (dLook (nat_lit 14) [] [(nat_lit 13)] (lkBin .lss g63 q6) p64 k201d12) k201d12)
noncomputable def k201d14 : KD := 
(dIf [] (wantT g53) p63 (dTurn (nat_lit 13) [] [] true (xCall g54 [g58, g62]) p63 k201d13) k201d13)
noncomputable def k201d15 : KD := 
(dIf [] (wantT g53) p62 (dLook (nat_lit 12) [] [] (lkLoadN (nat_lit 32) g61) p62 k201d14) k201d14)
noncomputable def k201d16 : KD := 
(dIf [] (wantT g53) p61 (dLook (nat_lit 11) [] [] (lkIxSl (nat_lit 32) g59 g60) p61 k201d15) k201d15)
noncomputable def k201d17 : KD := 
(dIf [] (wantT g53) p60 (dLook (nat_lit 10) [] [] (lkMove g12) p60 k201d16) k201d16)
noncomputable def k201d18 : KD := 
(dIf [] (wantT g53) p59 (dLook (nat_lit 9) [] [] (lkMove g0) p59 k201d17) k201d17)
noncomputable def k201d19 : KD := 
(dIf [] (wantT g53) p58 (dLook (nat_lit 8) [] [] (lkLoadN (nat_lit 32) g57) p58 k201d18) k201d18)
noncomputable def k201d20 : KD := 
(dIf [] (wantT g53) p57 (dLook (nat_lit 7) [] [] (lkIxSl (nat_lit 32) g55 g56) p57 k201d19) k201d19)
noncomputable def k201d21 : KD := 
(dIf [] (wantT g53) p56 (dLook (nat_lit 6) [] [] (lkMove g1) p56 k201d20) k201d20)
noncomputable def k201d22 : KD := 
(dIf [] (wantT g53) p55 (dLook (nat_lit 5) [] [] (lkMove g0) p55 k201d21) k201d21)
noncomputable def k201 : KFun := ⟨[rTmp (nat_lit 10) g10], (kSeq (oSet (xMove q6) p10 
oEnd) (kSeq (kDraw 
(dLook (nat_lit 0) [] [] (lkMove g0) p13 
(dLook (nat_lit 1) [] [] (lkMove g1) p14 
(dLook (nat_lit 2) [] [] (lkMove g0) p15 
(dLook (nat_lit 3) [] [] (lkMove g3) p16 
(dLook (nat_lit 4) [] [] (lkMove g0) p17 
(dLook (nat_lit 5) [] [] (lkMove g3) p18 
(dLook (nat_lit 6) [] [] (lkIxSl (nat_lit 32) g17 g18) p19 
(dLook (nat_lit 7) [] [] (lkLoadN (nat_lit 32) g19) p20 
(dLook (nat_lit 8) [] [] (lkMove g0) p21 
(dLook (nat_lit 9) [] [] (lkMove g1) p22 
(dLook (nat_lit 10) [] [] (lkIxSl (nat_lit 32) g21 g22) p23 
(dLook (nat_lit 11) [] [] (lkLoadN (nat_lit 32) g23) p24 
(dLook (nat_lit 12) [] [] (lkIxSl (nat_lit 32) g13 g14) p25 
(dTurn (nat_lit 13) [] [] true (xTurn (tnStore (nat_lit 32) g25 g20)) noDst 
(dLook (nat_lit 14) [] [(nat_lit 13)] (lkIxSl (nat_lit 32) g15 g16) p26 
(dTurn (nat_lit 15) [] [(nat_lit 13)] true (xTurn (tnStore (nat_lit 32) g26 g24)) noDst (dEnd [(nat_lit 13), (nat_lit 14), (nat_lit 15), (nat_lit 16), (nat_lit 17), (nat_lit 18), (nat_lit 19), (nat_lit 20), (nat_lit 21), (nat_lit 22), (nat_lit 23), (nat_lit 24), (nat_lit 25), (nat_lit 26)])))))))))))))))))) (kSeq (oSet (xMove g1) p27 
(oSet (xLook (lkBin .add g27 q14)) p28 
(oSet (xMove g2) p29 
(oSet (xLook (lkBin .sub g29 q14)) p30 
(oSet (xMove g28) p11 
(oSet (xMove g30) p12 
oEnd)))))) (kSeq (kBlock (nat_lit 0) (kLoop (kBlock (nat_lit 1) (kSeq (kBlock (nat_lit 2) (kLoop (kSeq (kSeq (kDraw 
(dLook (nat_lit 0) [] [] (lkMove g11) p31 
(dLook (nat_lit 1) [] [] (lkMove g12) p32 
(dLook (nat_lit 2) [] [] (lkBin .leq g31 g32) p33 
(dLook (nat_lit 3) [] [] (lkMove g33) p34 
(dIf [] (wantT g34) p35 (dLook (nat_lit 4) [] [] (lkMove g4) p35 k201d11) k201d11)))))) (kCond g47 kSkip (kExit (nat_lit 2)))) (kBlock (nat_lit 3) (oSet (xMove g11) p48 
(oSet (xLook (lkBin .add g48 q14)) p49 
(oSet (xMove g49) p11 
oEnd))))))) (kSeq (kBlock (nat_lit 4) (kLoop (kSeq (kSeq (kDraw 
(dLook (nat_lit 0) [] [] (lkMove g11) p50 
(dLook (nat_lit 1) [] [] (lkMove g12) p51 
(dLook (nat_lit 2) [] [] (lkBin .leq g50 g51) p52 
(dLook (nat_lit 3) [] [] (lkMove g52) p53 
(dIf [] (wantT g53) p54 (dLook (nat_lit 4) [] [] (lkMove g4) p54 k201d22) k201d22)))))) (kCond g65 kSkip (kExit (nat_lit 4)))) (kBlock (nat_lit 5) (oSet (xMove g12) p66 
(oSet (xLook (lkBin .sub g66 q14)) p67 
(oSet (xMove g67) p12 
oEnd))))))) (kSeq (kSeq (oSet (xMove g11) p68 
(oSet (xMove g12) p69 
(oSet (xLook (lkBin .gtr g68 g69)) p70 
oEnd))) (kCond g70 (kExit (nat_lit 0)) kSkip)) (kSeq (kDraw 
(dLook (nat_lit 0) [] [] (lkMove g0) p71 
(dLook (nat_lit 1) [] [] (lkMove g11) p72 
(dLook (nat_lit 2) [] [] (lkMove g0) p73 
(dLook (nat_lit 3) [] [] (lkMove g12) p74 
(dLook (nat_lit 4) [] [] (lkMove g0) p75 
(dLook (nat_lit 5) [] [] (lkMove g12) p76 
(dLook (nat_lit 6) [] [] (lkIxSl (nat_lit 32) g75 g76) p77 
(dLook (nat_lit 7) [] [] (lkLoadN (nat_lit 32) g77) p78 
(dLook (nat_lit 8) [] [] (lkMove g0) p79 
(dLook (nat_lit 9) [] [] (lkMove g11) p80 
(dLook (nat_lit 10) [] [] (lkIxSl (nat_lit 32) g79 g80) p81 
(dLook (nat_lit 11) [] [] (lkLoadN (nat_lit 32) g81) p82 
(dLook (nat_lit 12) [] [] (lkIxSl (nat_lit 32) g71 g72) p83 
(dTurn (nat_lit 13) [] [] true (xTurn (tnStore (nat_lit 32) g83 g78)) noDst 
(dLook (nat_lit 14) [] [(nat_lit 13)] (lkIxSl (nat_lit 32) g73 g74) p84 
(dTurn (nat_lit 15) [] [(nat_lit 13)] true (xTurn (tnStore (nat_lit 32) g84 g82)) noDst (dEnd [(nat_lit 71), (nat_lit 72), (nat_lit 73), (nat_lit 74), (nat_lit 75), (nat_lit 76), (nat_lit 77), (nat_lit 78), (nat_lit 79), (nat_lit 80), (nat_lit 81), (nat_lit 82), (nat_lit 83), (nat_lit 84)])))))))))))))))))) (kSeq (oSet (xMove g11) p85 
(oSet (xLook (lkBin .add g85 q14)) p86 
(oSet (xMove g86) p11 
oEnd))) (oSet (xMove g12) p87 
(oSet (xLook (lkBin .sub g87 q14)) p88 
(oSet (xMove g88) p12 
oEnd))))))))))) (kSeq (oSet (xMove g11) p89 
(oSet (xMove g89) p10 
oEnd)) kRet)))))⟩
noncomputable def k202d0 : KD := 
(dLook (nat_lit 15) [] [(nat_lit 13)] (lkPick g35 g46 q0) p47 (dEnd [(nat_lit 32), (nat_lit 33), (nat_lit 34), (nat_lit 35), (nat_lit 36), (nat_lit 37), (nat_lit 38), (nat_lit 39), (nat_lit 40), (nat_lit 41), (nat_lit 42), (nat_lit 43), (nat_lit 44), (nat_lit 45), (nat_lit 46), (nat_lit 47)]))
noncomputable def k202d1 : KD := 
(dIf [(nat_lit 13)] (wantT g35) p46 (dLook (nat_lit 14) [] [(nat_lit 13)] (lkBin .lss g45 q6) p46 k202d0) k202d0)
noncomputable def k202d2 : KD := 
(dIf [] (wantT g35) p45 (dTurn (nat_lit 13) [] [] true (xCall g36 [g40, g44]) p45 k202d1) k202d1)
noncomputable def k202d3 : KD := 
(dIf [] (wantT g35) p44 (dLook (nat_lit 12) [] [] (lkLoadN (nat_lit 32) g43) p44 k202d2) k202d2)
noncomputable def k202d4 : KD := 
(dIf [] (wantT g35) p43 (dLook (nat_lit 11) [] [] (lkIxSl (nat_lit 32) g41 g42) p43 k202d3) k202d3)
noncomputable def k202d5 : KD := 
(dIf [] (wantT g35) p42 (dLook (nat_lit 10) [] [] (lkMove g1) p42 k202d4) k202d4)
noncomputable def k202d6 : KD := 
(dIf [] (wantT g35) p41 (dLook (nat_lit 9) [] [] (lkMove g0) p41 k202d5) k202d5)
noncomputable def k202d7 : KD := 
(dIf [] (wantT g35) p40 (dLook (nat_lit 8) [] [] (lkLoadN (nat_lit 32) g39) p40 k202d6) k202d6)
noncomputable def k202d8 : KD := 
(dIf [] (wantT g35) p39 (dLook (nat_lit 7) [] [] (lkIxSl (nat_lit 32) g37 g38) p39 k202d7) k202d7)
noncomputable def k202d9 : KD := 
(dIf [] (wantT g35) p38 (dLook (nat_lit 6) [] [] (lkMove g12) p38 k202d8) k202d8)
noncomputable def k202d10 : KD := 
(dIf [] (wantT g35) p37 (dLook (nat_lit 5) [] [] (lkMove g0) p37 k202d9) k202d9)
noncomputable def k202d11 : KD := 
(dLook (nat_lit 16) [] [(nat_lit 13)] (lkPick g53 g65 q0) p66 (dEnd [(nat_lit 50), (nat_lit 51), (nat_lit 52), (nat_lit 53), (nat_lit 54), (nat_lit 55), (nat_lit 56), (nat_lit 57), (nat_lit 58), (nat_lit 59), (nat_lit 60), (nat_lit 61), (nat_lit 62), (nat_lit 63), (nat_lit 64), (nat_lit 65), (nat_lit 66)]))
noncomputable def k202d12 : KD := 
(dIf [(nat_lit 13)] (wantT g53) p65 (dLook (nat_lit 15) [] [(nat_lit 13)] (lkUn .not g64) p65 k202d11) k202d11)
noncomputable def k202d13 : KD := 
(dIf [(nat_lit 13)] (wantT g53) p64 (dLook (nat_lit 14) [] [(nat_lit 13)] (lkBin .lss g63 q6) p64 k202d12) k202d12)
noncomputable def k202d14 : KD := 
(dIf [] (wantT g53) p63 (dTurn (nat_lit 13) [] [] true (xCall g54 [g58, g62]) p63 k202d13) k202d13)
noncomputable def k202d15 : KD := 
(dIf [] (wantT g53) p62 (dLook (nat_lit 12) [] [] (lkLoadN (nat_lit 32) g61) p62 k202d14) k202d14)
noncomputable def k202d16 : KD := 
(dIf [] (wantT g53) p61 (dLook (nat_lit 11) [] [] (lkIxSl (nat_lit 32) g59 g60) p61 k202d15) k202d15)
noncomputable def k202d17 : KD := 
(dIf [] (wantT g53) p60 (dLook (nat_lit 10) [] [] (lkMove g1) p60 k202d16) k202d16)
noncomputable def k202d18 : KD := 
(dIf [] (wantT g53) p59 (dLook (nat_lit 9) [] [] (lkMove g0) p59 k202d17) k202d17)
noncomputable def k202d19 : KD := 
(dIf [] (wantT g53) p58 (dLook (nat_lit 8) [] [] (lkLoadN (nat_lit 32) g57) p58 k202d18) k202d18)
noncomputable def k202d20 : KD := 
(dIf [] (wantT g53) p57 (dLook (nat_lit 7) [] [] (lkIxSl (nat_lit 32) g55 g56) p57 k202d19) k202d19)
noncomputable def k202d21 : KD := 
(dIf [] (wantT g53) p56 (dLook (nat_lit 6) [] [] (lkMove g13) p56 k202d20) k202d20)
noncomputable def k202d22 : KD := 
(dIf [] (wantT g53) p55 (dLook (nat_lit 5) [] [] (lkMove g0) p55 k202d21) k202d21)
noncomputable def k202d23 : KD := 
(dLook (nat_lit 15) [] [(nat_lit 13)] (lkPick g108 g119 q0) p120 (dEnd [(nat_lit 105), (nat_lit 106), (nat_lit 107), (nat_lit 108), (nat_lit 109), (nat_lit 110), (nat_lit 111), (nat_lit 112), (nat_lit 113), (nat_lit 114), (nat_lit 115), (nat_lit 116), (nat_lit 117), (nat_lit 118), (nat_lit 119), (nat_lit 120)]))
noncomputable def k202d24 : KD := 
(dIf [(nat_lit 13)] (wantT g108) p119 (dLook (nat_lit 14) [] [(nat_lit 13)] (lkBin .lss g118 q6) p119 k202d23) k202d23)
noncomputable def k202d25 : KD := 
(dIf [] (wantT g108) p118 (dTurn (nat_lit 13) [] [] true (xCall g109 [g113, g117]) p118 k202d24) k202d24)
noncomputable def k202d26 : KD := 
(dIf [] (wantT g108) p117 (dLook (nat_lit 12) [] [] (lkLoadN (nat_lit 32) g116) p117 k202d25) k202d25)
noncomputable def k202d27 : KD := 
(dIf [] (wantT g108) p116 (dLook (nat_lit 11) [] [] (lkIxSl (nat_lit 32) g114 g115) p116 k202d26) k202d26)
noncomputable def k202d28 : KD := 
(dIf [] (wantT g108) p115 (dLook (nat_lit 10) [] [] (lkMove g1) p115 k202d27) k202d27)
noncomputable def k202d29 : KD := 
(dIf [] (wantT g108) p114 (dLook (nat_lit 9) [] [] (lkMove g0) p114 k202d28) k202d28)
noncomputable def k202d30 : KD := 
(dIf [] (wantT g108) p113 (dLook (nat_lit 8) [] [] (lkLoadN (nat_lit 32) g112) p113 k202d29) k202d29)
noncomputable def k202d31 : KD := 
(dIf [] (wantT g108) p112 (dLook (nat_lit 7) [] [] (lkIxSl (nat_lit 32) g110 g111) p112 k202d30) k202d30)
noncomputable def k202d32 : KD := 
(dIf [] (wantT g108) p111 (dLook (nat_lit 6) [] [] (lkMove g12) p111 k202d31) k202d31)
noncomputable def k202d33 : KD := 
(dIf [] (wantT g108) p110 (dLook (nat_lit 5) [] [] (lkMove g0) p110 k202d32) k202d32)
noncomputable def k202d34 : KD := 
(dLook (nat_lit 16) [] [(nat_lit 13)] (lkPick g126 g138 q0) p139 (dEnd [(nat_lit 123), (nat_lit 124), (nat_lit 125), (nat_lit 126), (nat_lit 127), (nat_lit 128), (nat_lit 129), (nat_lit 130), (nat_lit 131), (nat_lit 132), (nat_lit 133), (nat_lit 134), (nat_lit 135), (nat_lit 136), (nat_lit 137), (nat_lit 138), (nat_lit 139)]))
noncomputable def k202d35 : KD := 
(dIf [(nat_lit 13)] (wantT g126) p138 (dLook (nat_lit 15) [] [(nat_lit 13)] (lkUn .not g137) p138 k202d34) k202d34)
noncomputable def k202d36 : KD := 
(dIf [(nat_lit 13)] (wantT g126) p137 (dLook (nat_lit 14) [] [(nat_lit 13)] (lkBin .lss g136 q6) p137 k202d35) k202d35)
noncomputable def k202d37 : KD := 
(dIf [] (wantT g126) p136 (dTurn (nat_lit 13) [] [] true (xCall g127 [g131, g135]) p136 k202d36) k202d36)
noncomputable def k202d38 : KD := 
(dIf [] (wantT g126) p135 (dLook (nat_lit 12) [] [] (lkLoadN (nat_lit 32) g134) p135 k202d37) k202d37)
noncomputable def k202d39 : KD := 
(dIf [] (wantT g126) p134 (dLook (nat_lit 11) [] [] (lkIxSl (nat_lit 32) g132 g133) p134 k202d38) k202d38)
noncomputable def k202d40 : KD := 
(dIf [] (wantT g126) p133 (dLook (nat_lit 10) [] [] (lkMove g1) p133 k202d39) k202d39)
noncomputable def k202d41 : KD := 
(dIf [] (wantT g126) p132 (dLook (nat_lit 9) [] [] (lkMove g0) p132 k202d40) k202d40)
noncomputable def k202d42 : KD := 
(dIf [] (wantT g126) p131 (dLook (nat_lit 8) [] [] (lkLoadN (nat_lit 32) g130) p131 k202d41) k202d41)
noncomputable def k202d43 : KD := 
(dIf [] (wantT g126) p130 (dLook (nat_lit 7) [] [] (lkIxSl (nat_lit 32) g128 g129) p130 k202d42) k202d42)
noncomputable def k202d44 : KD := 
(dIf [] (wantT g126) p129 (dLook (nat_lit 6) [] [] (lkMove g13) p129 k202d43) k202d43)
noncomputable def k202d45 : KD := 
(dIf [] (wantT g126) p128 (dLook (nat_lit 5) [] [] (lkMove g0) p128 k202d44) k202d44)
noncomputable def k202 : KFun := ⟨[rTmp (nat_lit 10) g10, rTmp (nat_lit 11) g11], (kSeq (oSet (xMove q6) p10 
(oSet (xMove q0) p11 
oEnd)) (kSeq (kDraw 
(dLook (nat_lit 0) [] [] (lkMove g0) p14 
(dLook (nat_lit 1) [] [] (lkMove g1) p15 
(dLook (nat_lit 2) [] [] (lkMove g0) p16 
(dLook (nat_lit 3) [] [] (lkMove g3) p17 
(dLook (nat_lit 4) [] [] (lkMove g0) p18 
(dLook (nat_lit 5) [] [] (lkMove g3) p19 
(dLook (nat_lit 6) [] [] (lkIxSl (nat_lit 32) g18 g19) p20 
(dLook (nat_lit 7) [] [] (lkLoadN (nat_lit 32) g20) p21 
(dLook (nat_lit 8) [] [] (lkMove g0) p22 
(dLook (nat_lit 9) [] [] (lkMove g1) p23 
(dLook (nat_lit 10) [] [] (lkIxSl (nat_lit 32) g22 g23) p24 
(dLook (nat_lit 11) [] [] (lkLoadN (nat_lit 32) g24) p25 
(dLook (nat_lit 12) [] [] (lkIxSl (nat_lit 32) g14 g15) p26 
(dTurn (nat_lit 13) [] [] true (xTurn (tnStore (nat_lit 32) g26 g21)) noDst 
(dLook (nat_lit 14) [] [(nat_lit 13)] (lkIxSl (nat_lit 32) g16 g17) p27 
(dTurn (nat_lit 15) [] [(nat_lit 13)] true (xTurn (tnStore (nat_lit 32) g27 g25)) noDst (dEnd [(nat_lit 14), (nat_lit 15), (nat_lit 16), (nat_lit 17), (nat_lit 18), (nat_lit 19), (nat_lit 20), (nat_lit 21), (nat_lit 22), (nat_lit 23), (nat_lit 24), (nat_lit 25), (nat_lit 26), (nat_lit 27)])))))))))))))))))) (kSeq (oSet (xMove g1) p28 
(oSet (xLook (lkBin .add g28 q14)) p29 
(oSet (xMove g2) p30 
(oSet (xLook (lkBin .sub g30 q14)) p31 
(oSet (xMove g29) p12 
(oSet (xMove g31) p13 
oEnd)))))) (kSeq (kBlock (nat_lit 0) (kLoop (kSeq (kSeq (kDraw 
(dLook (nat_lit 0) [] [] (lkMove g12) p32 
(dLook (nat_lit 1) [] [] (lkMove g13) p33 
(dLook (nat_lit 2) [] [] (lkBin .leq g32 g33) p34 
(dLook (nat_lit 3) [] [] (lkMove g34) p35 
(dIf [] (wantT g35) p36 (dLook (nat_lit 4) [] [] (lkMove g4) p36 k202d10) k202d10)))))) (kCond g47 kSkip (kExit (nat_lit 0)))) (kBlock (nat_lit 1) (oSet (xMove g12) p48 
(oSet (xLook (lkBin .add g48 q14)) p49 
(oSet (xMove g49) p12 
oEnd))))))) (kSeq (kBlock (nat_lit 2) (kLoop (kSeq (kSeq (kDraw 
(dLook (nat_lit 0) [] [] (lkMove g12) p50 
(dLook (nat_lit 1) [] [] (lkMove g13) p51 
(dLook (nat_lit 2) [] [] (lkBin .leq g50 g51) p52 
(dLook (nat_lit 3) [] [] (lkMove g52) p53 
(dIf [] (wantT g53) p54 (dLook (nat_lit 4) [] [] (lkMove g4) p54 k202d22) k202d22)))))) (kCond g66 kSkip (kExit (nat_lit 2)))) (kBlock (nat_lit 3) (oSet (xMove g13) p67 
(oSet (xLook (lkBin .sub g67 q14)) p68 
(oSet (xMove g68) p13 
oEnd))))))) (kSeq (kSeq (oSet (xMove g12) p69 
(oSet (xMove g13) p70 
(oSet (xLook (lkBin .gtr g69 g70)) p71 
oEnd))) (kCond g71 (kSeq (kDraw 
(dLook (nat_lit 0) [] [] (lkMove g0) p72 
(dLook (nat_lit 1) [] [] (lkMove g13) p73 
(dLook (nat_lit 2) [] [] (lkMove g0) p74 
(dLook (nat_lit 3) [] [] (lkMove g1) p75 
(dLook (nat_lit 4) [] [] (lkMove g0) p76 
(dLook (nat_lit 5) [] [] (lkMove g1) p77 
(dLook (nat_lit 6) [] [] (lkIxSl (nat_lit 32) g76 g77) p78 
(dLook (nat_lit 7) [] [] (lkLoadN (nat_lit 32) g78) p79 
(dLook (nat_lit 8) [] [] (lkMove g0) p80 
(dLook (nat_lit 9) [] [] (lkMove g13) p81 
(dLook (nat_lit 10) [] [] (lkIxSl (nat_lit 32) g80 g81) p82 
(dLook (nat_lit 11) [] [] (lkLoadN (nat_lit 32) g82) p83 
(dLook (nat_lit 12) [] [] (lkIxSl (nat_lit 32) g72 g73) p84 
(dTurn (nat_lit 13) [] [] true (xTurn (tnStore (nat_lit 32) g84 g79)) noDst 
(dLook (nat_lit 14) [] [(nat_lit 13)] (lkIxSl (nat_lit 32) g74 g75) p85 
(dTurn (nat_lit 15) [] [(nat_lit 13)] true (xTurn (tnStore (nat_lit 32) g85 g83)) noDst (dEnd [(nat_lit 72), (nat_lit 73), (nat_lit 74), (nat_lit 75), (nat_lit 76), (nat_lit 77), (nat_lit 78), (nat_lit 79), (nat_lit 80), (nat_lit 81), (nat_lit 82), (nat_lit 83), (nat_lit 84), (nat_lit 85)])))))))))))))))))) (kSeq (oSet (xMove g13) p86 
(oSet (xMove g86) p10 
(oSet (xMove q13) p11 
oEnd))) kRet)) kSkip)) (kSeq (kDraw 
(dLook (nat_lit 0) [] [] (lkMove g0) p87 
(dLook (nat_lit 1) [] [] (lkMove g12) p88 
(dLook (nat_lit 2) [] [] (lkMove g0) p89 
(dLook (nat_lit 3) [] [] (lkMove g13) p90 
(dLook (nat_lit 4) [] [] (lkMove g0) p91 
(dLook (nat_lit 5) [] [] (lkMove g13) p92 
(dLook (nat_lit 6) [] [] (lkIxSl (nat_lit 32) g91 g92) p93 
(dLook (nat_lit 7) [] [] (lkLoadN (nat_lit 32) g93) p94 
(dLook (nat_lit 8) [] [] (lkMove g0) p95 
(dLook (nat_lit 9) [] [] (lkMove g12) p96 
(dLook (nat_lit 10) [] [] (lkIxSl (nat_lit 32) g95 g96) p97 
(dLook (nat_lit 11) [] [] (lkLoadN (nat_lit 32) g97) p98 
(dLook (nat_lit 12) [] [] (lkIxSl (nat_lit 32) g87 g88) p99 
(dTurn (nat_lit 13) [] [] true (xTurn (tnStore (nat_lit 32) g99 g94)) noDst 
(dLook (nat_lit 14) [] [(nat_lit 13)] (lkIxSl (nat_lit 32) g89 g90) p100 
(dTurn (nat_lit 15) [] [(nat_lit 13)] true (xTurn (tnStore (nat_lit 32) g100 g98)) noDst (dEnd [(nat_lit 87), (nat_lit 88), (nat_lit 89), (nat_lit 90), (nat_lit 91), (nat_lit 92), (nat_lit 93), (nat_lit 94), (nat_lit 95), (nat_lit 96), (nat_lit 97), (nat_lit 98), (nat_lit 99), (nat_lit 100)])))))))))))))))))) (kSeq (oSet (xMove g12) p101 
(oSet (xLook (lkBin .add g101 q14)) p102 
(oSet (xMove g102) p12 
oEnd))) (kSeq (oSet (xMove g13) p103 
(oSet (xLook (lkBin .sub g103 q14)) p104 
(oSet (xMove g104) p13 
oEnd))) (kSeq (kBlock (nat_lit 4) (kLoop (kBlock (nat_lit 5) (kSeq (kBlock (nat_lit 6) (kLoop (kSeq (kSeq (kDraw 
(dLook (nat_lit 0) [] [] (lkMove g12) p105 
(dLook (nat_lit 1) [] [] (lkMove g13) p106 
(dLook (nat_lit 2) [] [] (lkBin .leq g105 g106) p107 
(dLook (nat_lit 3) [] [] (lkMove g107) p108 
(dIf [] (wantT g108) p109 (dLook (nat_lit 4) [] [] (lkMove g4) p109 k202d33) k202d33)))))) (kCond g120 kSkip (kExit (nat_lit 6)))) (kBlock (nat_lit 7) (oSet (xMove g12) p121 
(oSet (xLook (lkBin .add g121 q14)) p122 
(oSet (xMove g122) p12 
oEnd))))))) (kSeq (kBlock (nat_lit 8) (kLoop (kSeq (kSeq (kDraw 
(dLook (nat_lit 0) [] [] (lkMove g12) p123 
(dLook (nat_lit 1) [] [] (lkMove g13) p124 
(dLook (nat_lit 2) [] [] (lkBin .leq g123 g124) p125 
(dLook (nat_lit 3) [] [] (lkMove g125) p126 
(dIf [] (wantT g126) p127 (dLook (nat_lit 4) [] [] (lkMove g4) p127 k202d45) k202d45)))))) (kCond g139 kSkip (kExit (nat_lit 8)))) (kBlock (nat_lit 9) (oSet (xMove g13) p140 
(oSet (xLook (lkBin .sub g140 q14)) p141 
(oSet (xMove g141) p13 
oEnd))))))) (kSeq (kSeq (oSet (xMove g12) p142 
(oSet (xMove g13) p143 
(oSet (xLook (lkBin .gtr g142 g143)) p144 
oEnd))) (kCond g144 (kExit (nat_lit 4)) kSkip)) (kSeq (kDraw 
(dLook (nat_lit 0) [] [] (lkMove g0) p145 
(dLook (nat_lit 1) [] [] (lkMove g12) p146 
(dLook (nat_lit 2) [] [] (lkMove g0) p147 
(dLook (nat_lit 3) [] [] (lkMove g13) p148 
(dLook (nat_lit 4) [] [] (lkMove g0) p149 
(dLook (nat_lit 5) [] [] (lkMove g13) p150 
(dLook (nat_lit 6) [] [] (lkIxSl (nat_lit 32) g149 g150) p151 
(dLook (nat_lit 7) [] [] (lkLoadN (nat_lit 32) g151) p152 
(dLook (nat_lit 8) [] [] (lkMove g0) p153 
(dLook (nat_lit 9) [] [] (lkMove g12) p154 
(dLook (nat_lit 10) [] [] (lkIxSl (nat_lit 32) g153 g154) p155 
(dLook (nat_lit 11) [] [] (lkLoadN (nat_lit 32) g155) p156 
(dLook (nat_lit 12) [] [] (lkIxSl (nat_lit 32) g145 g146) p157 
(dTurn (nat_lit 13) [] [] true (xTurn (tnStore (nat_lit 32) g157 g152)) noDst 
(dLook (nat_lit 14) [] [(nat_lit 13)] (lkIxSl (nat_lit 32) g147 g148) p158 
(dTurn (nat_lit 15) [] [(nat_lit 13)] true (xTurn (tnStore (nat_lit 32) g158 g156)) noDst (dEnd [(nat_lit 145), (nat_lit 146), (nat_lit 147), (nat_lit 148), (nat_lit 149), (nat_lit 150), (nat_lit 151), (nat_lit 152), (nat_lit 153), (nat_lit 154), (nat_lit 155), (nat_lit 156), (nat_lit 157), (nat_lit 158)])))))))))))))))))) (kSeq (oSet (xMove g12) p159 
(oSet (xLook (lkBin .add g159 q14)) p160 
(oSet (xMove g160) p12 
oEnd))) (oSet (xMove g13) p161 
(oSet (xLook (lkBin .sub g161 q14)) p162 
(oSet (xMove g162) p13 
oEnd))))))))))) (kSeq (kDraw 
(dLook (nat_lit 0) [] [] (lkMove g0) p163 
(dLook (nat_lit 1) [] [] (lkMove g13) p164 
(dLook (nat_lit 2) [] [] (lkMove g0) p165 
(dLook (nat_lit 3) [] [] (lkMove g1) p166 
(dLook (nat_lit 4) [] [] (lkMove g0) p167 
(dLook (nat_lit 5) [] [] (lkMove g1) p168 
(dLook (nat_lit 6) [] [] (lkIxSl (nat_lit 32) g167 g168) p169 
(dLook (nat_lit 7) [] [] (lkLoadN (nat_lit 32) g169) p170 
(dLook (nat_lit 8) [] [] (lkMove g0) p171 
(dLook (nat_lit 9) [] [] (lkMove g13) p172 
(dLook (nat_lit 10) [] [] (lkIxSl (nat_lit 32) g171 g172) p173 
(dLook (nat_lit 11) [] [] (lkLoadN (nat_lit 32) g173) p174 
(dLook (nat_lit 12) [] [] (lkIxSl (nat_lit 32) g163 g164) p175 
(dTurn (nat_lit 13) [] [] true (xTurn (tnStore (nat_lit 32) g175 g170)) noDst 
(dLook (nat_lit 14) [] [(nat_lit 13)] (lkIxSl (nat_lit 32) g165 g166) p176 
(dTurn (nat_lit 15) [] [(nat_lit 13)] true (xTurn (tnStore (nat_lit 32) g176 g174)) noDst (dEnd [(nat_lit 163), (nat_lit 164), (nat_lit 165), (nat_lit 166), (nat_lit 167), (nat_lit 168), (nat_lit 169), (nat_lit 170), (nat_lit 171), (nat_lit 172), (nat_lit 173), (nat_lit 174), (nat_lit 175), (nat_lit 176)])))))))))))))))))) (kSeq (oSet (xMove g13) p177 
(oSet (xMove g177) p10 
(oSet (xMove q0) p11 
oEnd))) kRet))))))))))))⟩
def q203 : OpdF := kC (.int .u32 (.ofNat (nat_lit 65536)))
def q204 : OpdF := kC (.int .u32 (.ofNat (nat_lit 256)))
def q205 : OpdF := kC (.string ⟨⟨[0, 1, 2, 2, 3, 3, 3, 3, 4, 4, 4, 4, 4, 4, 4, 4, 5, 5, 5, 5, 5, 5, 5, 5, 5, 5, 5, 5, 5, 5, 5, 5, 6, 6, 6, 6, 6, 6, 6, 6, 6, 6, 6, 6, 6, 6, 6, 6, 6, 6, 6, 6, 6, 6, 6, 6, 6, 6, 6, 6, 6, 6, 6, 6, 7, 7, 7, 7, 7, 7, 7, 7, 7, 7, 7, 7, 7, 7, 7, 7, 7, 7, 7, 7, 7, 7, 7, 7, 7, 7, 7, 7, 7, 7, 7, 7, 7, 7, 7, 7, 7, 7, 7, 7, 7, 7, 7, 7, 7, 7, 7, 7, 7, 7, 7, 7, 7, 7, 7, 7, 7, 7, 7, 7, 7, 7, 7, 7, 8, 8, 8, 8, 8, 8, 8, 8, 8, 8, 8, 8, 8, 8, 8, 8, 8, 8, 8, 8, 8, 8, 8, 8, 8, 8, 8, 8, 8, 8, 8, 8, 8, 8, 8, 8, 8, 8, 8, 8, 8, 8, 8, 8, 8, 8, 8, 8, 8, 8, 8, 8, 8, 8, 8, 8, 8, 8, 8, 8, 8, 8, 8, 8, 8, 8, 8, 8, 8, 8, 8, 8, 8, 8, 8, 8, 8, 8, 8, 8, 8, 8, 8, 8, 8, 8, 8, 8, 8, 8, 8, 8, 8, 8, 8, 8, 8, 8, 8, 8, 8, 8, 8, 8, 8, 8, 8, 8, 8, 8, 8, 8, 8, 8, 8, 8, 8, 8, 8, 8, 8, 8, 8, 8, 8, 8, 8, 8]⟩⟩)
noncomputable def k203 : KFun := ⟨[rTmp (nat_lit 2) g2], (kSeq (oSet (xMove q6) p2 
oEnd) (kSeq (kSeq (oSet (xMove g0) p3 
(oSet (xLook (lkBin .geq g3 q203)) p4 
oEnd)) (kCond g4 (kSeq (oSet (xMove g0) p5 
(oSet (xLook (lkBin .shr g5 q152)) p6 
(oSet (xMove g6) p0 
oEnd))) (oSet (xMove q59) p2 
oEnd)) kSkip)) (kSeq (kSeq (oSet (xMove g0) p7 
(oSet (xLook (lkBin .geq g7 q204)) p8 
oEnd)) (kCond g8 (kSeq (oSet (xMove g0) p9 
(oSet (xLook (lkBin .shr g9 q91)) p10 
(oSet (xMove g10) p0 
oEnd))) (oSet (xMove g2) p11 
(oSet (xLook (lkBin .add g11 q44)) p12 
(oSet (xMove g12) p2 
oEnd)))) kSkip)) (kSeq (oSet (xMove g2) p13 
(oSet (xMove g0) p14 
(oSet (xLook (lkIntTo .u8 g14)) p15 
(oSet (xLook (lkIxStr q205 g15)) p16 
(oSet (xLook (lkIntTo .i64 g16)) p17 
(oSet (xLook (lkBin .add g13 g17)) p18 
(oSet (xMove g18) p2 
oEnd))))))) kRet))))⟩
def q206 : OpdF := kC (.int .u64 (.ofNat (nat_lit 4294967296)))
def q207 : OpdF := kC (.int .u64 (.ofNat (nat_lit 32)))
def q208 : OpdF := kC (.int .i64 (.ofNat (nat_lit 32)))
def q209 : OpdF := kC (.int .u64 (.ofNat (nat_lit 65536)))
def q210 : OpdF := kC (.int .u64 (.ofNat (nat_lit 256)))
noncomputable def k204 : KFun := ⟨[rTmp (nat_lit 2) g2], (kSeq (oSet (xMove q6) p2 
oEnd) (kSeq (kSeq (oSet (xMove g0) p3 
(oSet (xLook (lkBin .geq g3 q206)) p4 
oEnd)) (kCond g4 (kSeq (oSet (xMove g0) p5 
(oSet (xLook (lkBin .shr g5 q207)) p6 
(oSet (xMove g6) p0 
oEnd))) (oSet (xMove q208) p2 
oEnd)) kSkip)) (kSeq (kSeq (oSet (xMove g0) p7 
(oSet (xLook (lkBin .geq g7 q209)) p8 
oEnd)) (kCond g8 (kSeq (oSet (xMove g0) p9 
(oSet (xLook (lkBin .shr g9 q152)) p10 
(oSet (xMove g10) p0 
oEnd))) (oSet (xMove g2) p11 
(oSet (xLook (lkBin .add g11 q59)) p12 
(oSet (xMove g12) p2 
oEnd)))) kSkip)) (kSeq (kSeq (oSet (xMove g0) p13 
(oSet (xLook (lkBin .geq g13 q210)) p14 
oEnd)) (kCond g14 (kSeq (oSet (xMove g0) p15 
(oSet (xLook (lkBin .shr g15 q91)) p16 
(oSet (xMove g16) p0 
oEnd))) (oSet (xMove g2) p17 
(oSet (xLook (lkBin .add g17 q44)) p18 
(oSet (xMove g18) p2 
oEnd)))) kSkip)) (kSeq (oSet (xMove g2) p19 
(oSet (xMove g0) p20 
(oSet (xLook (lkIntTo .u8 g20)) p21 
(oSet (xLook (lkIxStr q205 g21)) p22 
(oSet (xLook (lkIntTo .i64 g22)) p23 
(oSet (xLook (lkBin .add g19 g23)) p24 
(oSet (xMove g24) p2 
oEnd))))))) kRet)))))⟩
def q211 : OpdF := kC (.int .u32 (.ofNat (nat_lit 0)))
def q212 : OpdF := kC (.func (.func (nat_lit 261)) ⟨[]⟩ ⟨[]⟩)
noncomputable def k205 : KFun := ⟨[rTmp (nat_lit 4) g4], (kSeq (oSet (xMove q211) p4 
oEnd) (kSeq (oSet (xMove g0) p5 
(oSet (xMove g1) p6 
(oSet (xLook (lkUn .neg g6)) p7 
(oSet (xCall q212 [g5, g7]) p8 
(oSet (xMove g8) p4 
oEnd))))) kRet))⟩
def q213 : OpdF := kC (.int .u32 (.ofNat (nat_lit 1116352408)))
def q214 : OpdF := kC (.int .u32 (.ofNat (nat_lit 1899447441)))
def q215 : OpdF := kC (.int .u32 (.ofNat (nat_lit 3049323471)))
def q216 : OpdF := kC (.int .u32 (.ofNat (nat_lit 3921009573)))
def q217 : OpdF := kC (.int .u32 (.ofNat (nat_lit 961987163)))
def q218 : OpdF := kC (.int .u32 (.ofNat (nat_lit 1508970993)))
def q219 : OpdF := kC (.int .u32 (.ofNat (nat_lit 2453635748)))
def q220 : OpdF := kC (.int .u32 (.ofNat (nat_lit 2870763221)))
def q221 : OpdF := kC (.int .u32 (.ofNat (nat_lit 3624381080)))
def q222 : OpdF := kC (.int .u32 (.ofNat (nat_lit 310598401)))
def q223 : OpdF := kC (.int .u32 (.ofNat (nat_lit 607225278)))
def q224 : OpdF := kC (.int .u32 (.ofNat (nat_lit 1426881987)))
def q225 : OpdF := kC (.int .u32 (.ofNat (nat_lit 1925078388)))
def q226 : OpdF := kC (.int .u32 (.ofNat (nat_lit 2162078206)))
def q227 : OpdF := kC (.int .u32 (.ofNat (nat_lit 2614888103)))
def q228 : OpdF := kC (.int .u32 (.ofNat (nat_lit 3248222580)))
def q229 : OpdF := kC (.int .u32 (.ofNat (nat_lit 3835390401)))
def q230 : OpdF := kC (.int .u32 (.ofNat (nat_lit 4022224774)))
def q231 : OpdF := kC (.int .u32 (.ofNat (nat_lit 264347078)))
def q232 : OpdF := kC (.int .u32 (.ofNat (nat_lit 604807628)))

end Go.Proofs.YtlajogneffpnlaaGreat.Eng
