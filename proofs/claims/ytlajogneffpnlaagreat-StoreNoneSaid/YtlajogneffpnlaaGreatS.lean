/-
  The functions that the law reaches, as the abstract machine runs them, printed by program. No condition.
-/
import Derived.Test.YtlajogneffpnlaaGreatS0
namespace Go.Proofs.YtlajogneffpnlaaGreat.Eng
open Go Go.Eng
set_option linter.unusedVariables false
set_option maxRecDepth 100000

def q233 : OpdF := kC (.int .u32 (.ofNat (nat_lit 770255983)))
def q234 : OpdF := kC (.int .u32 (.ofNat (nat_lit 1249150122)))
def q235 : OpdF := kC (.int .u32 (.ofNat (nat_lit 1555081692)))
def q236 : OpdF := kC (.int .u32 (.ofNat (nat_lit 1996064986)))
def q237 : OpdF := kC (.int .u32 (.ofNat (nat_lit 2554220882)))
def q238 : OpdF := kC (.int .u32 (.ofNat (nat_lit 2821834349)))
def q239 : OpdF := kC (.int .u32 (.ofNat (nat_lit 2952996808)))
def q240 : OpdF := kC (.int .u32 (.ofNat (nat_lit 3210313671)))
def q241 : OpdF := kC (.int .u32 (.ofNat (nat_lit 3336571891)))
def q242 : OpdF := kC (.int .u32 (.ofNat (nat_lit 3584528711)))
def q243 : OpdF := kC (.int .u32 (.ofNat (nat_lit 113926993)))
def q244 : OpdF := kC (.int .u32 (.ofNat (nat_lit 338241895)))
def q245 : OpdF := kC (.int .u32 (.ofNat (nat_lit 666307205)))
def q246 : OpdF := kC (.int .u32 (.ofNat (nat_lit 773529912)))
def q247 : OpdF := kC (.int .u32 (.ofNat (nat_lit 1294757372)))
def q248 : OpdF := kC (.int .u32 (.ofNat (nat_lit 1396182291)))
def q249 : OpdF := kC (.int .u32 (.ofNat (nat_lit 1695183700)))
def q250 : OpdF := kC (.int .u32 (.ofNat (nat_lit 1986661051)))
def q251 : OpdF := kC (.int .u32 (.ofNat (nat_lit 2177026350)))
def q252 : OpdF := kC (.int .u32 (.ofNat (nat_lit 2456956037)))
def q253 : OpdF := kC (.int .u32 (.ofNat (nat_lit 2730485921)))
def q254 : OpdF := kC (.int .u32 (.ofNat (nat_lit 2820302411)))
def q255 : OpdF := kC (.int .u32 (.ofNat (nat_lit 3259730800)))
def q256 : OpdF := kC (.int .u32 (.ofNat (nat_lit 3345764771)))
def q257 : OpdF := kC (.int .u32 (.ofNat (nat_lit 3516065817)))
def q258 : OpdF := kC (.int .u32 (.ofNat (nat_lit 3600352804)))
def q259 : OpdF := kC (.int .u32 (.ofNat (nat_lit 4094571909)))
def q260 : OpdF := kC (.int .u32 (.ofNat (nat_lit 275423344)))
def q261 : OpdF := kC (.int .u32 (.ofNat (nat_lit 430227734)))
def q262 : OpdF := kC (.int .u32 (.ofNat (nat_lit 506948616)))
def q263 : OpdF := kC (.int .u32 (.ofNat (nat_lit 659060556)))
def q264 : OpdF := kC (.int .u32 (.ofNat (nat_lit 883997877)))
def q265 : OpdF := kC (.int .u32 (.ofNat (nat_lit 958139571)))
def q266 : OpdF := kC (.int .u32 (.ofNat (nat_lit 1322822218)))
def q267 : OpdF := kC (.int .u32 (.ofNat (nat_lit 1537002063)))
def q268 : OpdF := kC (.int .u32 (.ofNat (nat_lit 1747873779)))
def q269 : OpdF := kC (.int .u32 (.ofNat (nat_lit 1955562222)))
def q270 : OpdF := kC (.int .u32 (.ofNat (nat_lit 2024104815)))
def q271 : OpdF := kC (.int .u32 (.ofNat (nat_lit 2227730452)))
def q272 : OpdF := kC (.int .u32 (.ofNat (nat_lit 2361852424)))
def q273 : OpdF := kC (.int .u32 (.ofNat (nat_lit 2428436474)))
def q274 : OpdF := kC (.int .u32 (.ofNat (nat_lit 2756734187)))
def q275 : OpdF := kC (.int .u32 (.ofNat (nat_lit 3204031479)))
def q276 : OpdF := kC (.int .u32 (.ofNat (nat_lit 3329325298)))
noncomputable def k206 : KFun := ⟨[rCellN (nat_lit 0) g0 (nat_lit 64)], (kSeq (oSet (xTurn (tnAlloc q151)) p0 
oEnd) (kSeq (oSet (xLook (lkBuild q151 [((nat_lit 0), (nat_lit 1), q213), ((nat_lit 1), (nat_lit 1), q214), ((nat_lit 2), (nat_lit 1), q215), ((nat_lit 3), (nat_lit 1), q216), ((nat_lit 4), (nat_lit 1), q217), ((nat_lit 5), (nat_lit 1), q218), ((nat_lit 6), (nat_lit 1), q219), ((nat_lit 7), (nat_lit 1), q220), ((nat_lit 8), (nat_lit 1), q221), ((nat_lit 9), (nat_lit 1), q222), ((nat_lit 10), (nat_lit 1), q223), ((nat_lit 11), (nat_lit 1), q224), ((nat_lit 12), (nat_lit 1), q225), ((nat_lit 13), (nat_lit 1), q226), ((nat_lit 14), (nat_lit 1), q227), ((nat_lit 15), (nat_lit 1), q228), ((nat_lit 16), (nat_lit 1), q229), ((nat_lit 17), (nat_lit 1), q230), ((nat_lit 18), (nat_lit 1), q231), ((nat_lit 19), (nat_lit 1), q232), ((nat_lit 20), (nat_lit 1), q233), ((nat_lit 21), (nat_lit 1), q234), ((nat_lit 22), (nat_lit 1), q235), ((nat_lit 23), (nat_lit 1), q236), ((nat_lit 24), (nat_lit 1), q237), ((nat_lit 25), (nat_lit 1), q238), ((nat_lit 26), (nat_lit 1), q239), ((nat_lit 27), (nat_lit 1), q240), ((nat_lit 28), (nat_lit 1), q241), ((nat_lit 29), (nat_lit 1), q242), ((nat_lit 30), (nat_lit 1), q243), ((nat_lit 31), (nat_lit 1), q244), ((nat_lit 32), (nat_lit 1), q245), ((nat_lit 33), (nat_lit 1), q246), ((nat_lit 34), (nat_lit 1), q247), ((nat_lit 35), (nat_lit 1), q248), ((nat_lit 36), (nat_lit 1), q249), ((nat_lit 37), (nat_lit 1), q250), ((nat_lit 38), (nat_lit 1), q251), ((nat_lit 39), (nat_lit 1), q252), ((nat_lit 40), (nat_lit 1), q253), ((nat_lit 41), (nat_lit 1), q254), ((nat_lit 42), (nat_lit 1), q255), ((nat_lit 43), (nat_lit 1), q256), ((nat_lit 44), (nat_lit 1), q257), ((nat_lit 45), (nat_lit 1), q258), ((nat_lit 46), (nat_lit 1), q259), ((nat_lit 47), (nat_lit 1), q260), ((nat_lit 48), (nat_lit 1), q261), ((nat_lit 49), (nat_lit 1), q262), ((nat_lit 50), (nat_lit 1), q263), ((nat_lit 51), (nat_lit 1), q264), ((nat_lit 52), (nat_lit 1), q265), ((nat_lit 53), (nat_lit 1), q266), ((nat_lit 54), (nat_lit 1), q267), ((nat_lit 55), (nat_lit 1), q268), ((nat_lit 56), (nat_lit 1), q269), ((nat_lit 57), (nat_lit 1), q270), ((nat_lit 58), (nat_lit 1), q271), ((nat_lit 59), (nat_lit 1), q272), ((nat_lit 60), (nat_lit 1), q273), ((nat_lit 61), (nat_lit 1), q274), ((nat_lit 62), (nat_lit 1), q275), ((nat_lit 63), (nat_lit 1), q276)])) p1 
(oDo (xTurn (tnStore (nat_lit 64) g0 g1)) 
oEnd)) kRet))⟩
noncomputable def k207 : KFun := ⟨[rTmp (nat_lit 2) g2], (kSeq (oSet (xMove q0) p2 
oEnd) (kSeq (oSet (xMove g0) p3 
(oSet (xLook (lkEq false .ptr g3 q3)) p4 
(oSet (xMove g4) p5 
(oSetIf (wantF g5) (xMove g0) p6 
(oSetIf (wantF g5) (xNil g6) p7 
(oSetIf (wantF g5) (xLook (lkFieldAddr (nat_lit 0) g7)) p8 
(oSetIf (wantF g5) (xCall q186 [g8]) p9 
(oSet (xLook (lkPick g5 q13 g9)) p10 
(oSet (xMove g10) p2 
oEnd))))))))) kRet))⟩
noncomputable def k208 : KFun := ⟨[rTmp (nat_lit 4) g4], (kSeq (oSet (xMove q6) p4 
oEnd) (kSeq (kSeq (oSet (xMove g0) p6 
(oSet (xLook (lkLen .sl g6)) p7 
(oSet (xMove q6) p8 
oEnd))) (kBlock (nat_lit 0) (kLoop (kSeq (oSet (xLook (lkBin .lss g8 g7)) p9 
oEnd) (kSeq (kCond g9 kSkip (kExit (nat_lit 0))) (kSeq (kBlock (nat_lit 1) (kSeq (oSet (xMove g8) p10 
(oSet (xMove g10) p5 
oEnd)) (kSeq (oSet (xMove g1) p11 
(oSet (xMove g0) p12 
(oSet (xMove g5) p13 
(oSet (xLook (lkIxSl (nat_lit 2) g12 g13)) p14 
(oSet (xLook (lkLoadN (nat_lit 2) g14)) p15 
(oSet (xCall g11 [g15]) p16 
oEnd)))))) (kCond g16 (kSeq (oSet (xMove g5) p17 
(oSet (xMove g17) p4 
oEnd)) kRet) kSkip)))) (oSet (xLook (lkBin .add g8 q14)) p18 
(oSet (xMove g18) p8 
oEnd)))))))) (kSeq (oSet (xMove q79) p4 
oEnd) kRet)))⟩
noncomputable def k209 : KFun := ⟨[rTmp (nat_lit 3) g3], (kSeq (oSet (xTurn (tnBox g0)) p2 
(oSet (xMove q0) p3 
oEnd)) (kSeq (oSet (xLook (lkFieldAddr (nat_lit 1) g2)) p4 
(oSet (xLook (lkLoad1 g4)) p5 
(oSet (xLook (lkLoad1 g1)) p6 
(oSet (xLook (lkBin .geq g5 g6)) p7 
(oSet (xMove g7) p3 
oEnd))))) kRet))⟩
def q277 : OpdF := kC (.func (.func (nat_lit 263)) ⟨[]⟩ ⟨[]⟩)
def q278 : OpdF := kC (.func (.func (nat_lit 262)) ⟨[]⟩ ⟨[]⟩)
def q279 : OpdF := kC (.func (.func (nat_lit 264)) ⟨[]⟩ ⟨[]⟩)
noncomputable def k210 : KFun := ⟨[rTmp (nat_lit 8) g8], (kSeq (oSet (xMove q12) p8 
oEnd) (kSeq (oSet (xMove g0) p12 
(oSet (xMove g1) p13 
(oSet (xLook (lkIxSl (nat_lit 2) g12 g13)) p14 
(oSet (xLook (lkLoadN (nat_lit 2) g14)) p15 
(oSet (xTurn (tnAlloc q40)) p9 
(oDo (xTurn (tnStore (nat_lit 2) g9 g15)) 
oEnd)))))) (kSeq (oSet (xMove q12) p10 
oEnd) (kSeq (kSeq (oSet (xMove g2) p16 
(oSet (xLook (lkFieldAddr (nat_lit 0) g9)) p17 
(oSet (xLook (lkLoad1 g17)) p18 
(oSet (xLook (lkBin .gtr g16 g18)) p19 
oEnd)))) (kCond g19 (oSet (xMove g10) p20 
(oSet (xLook (lkFieldAddr (nat_lit 0) g9)) p21 
(oSet (xLook (lkLoad1 g21)) p22 
(oSet (xMove g2) p23 
(oSet (xLook (lkFieldAddr (nat_lit 0) g9)) p24 
(oSet (xLook (lkLoad1 g24)) p25 
(oSet (xLook (lkBin .sub g23 g25)) p26 
(oSet (xLook (lkBuild q40 [((nat_lit 0), (nat_lit 1), g22), ((nat_lit 1), (nat_lit 1), g26)])) p27 
(oSet (xTurn (tnBuildSlice q40 [((nat_lit 0), (nat_lit 2), g27)] (nat_lit 1))) p28 
(oSet (xTurn (tnAppend (nat_lit 2) g20 g28)) p29 
(oSet (xMove g29) p10 
oEnd))))))))))) kSkip)) (kSeq (kSeq (oSet (xMove g2) p30 
(oSet (xMove g3) p31 
(oSet (xLook (lkBin .add g30 g31)) p32 
(oSet (xLook (lkLoadN (nat_lit 2) g9)) p33 
(oSet (xCall q190 [g33]) p34 
(oSet (xLook (lkBin .lss g32 g34)) p35 
oEnd)))))) (kCond g35 (oSet (xMove g10) p36 
(oSet (xMove g2) p37 
(oSet (xMove g3) p38 
(oSet (xLook (lkBin .add g37 g38)) p39 
(oSet (xLook (lkLoadN (nat_lit 2) g9)) p40 
(oSet (xCall q190 [g40]) p41 
(oSet (xMove g2) p42 
(oSet (xLook (lkBin .sub g41 g42)) p43 
(oSet (xMove g3) p44 
(oSet (xLook (lkBin .sub g43 g44)) p45 
(oSet (xLook (lkBuild q40 [((nat_lit 0), (nat_lit 1), g39), ((nat_lit 1), (nat_lit 1), g45)])) p46 
(oSet (xTurn (tnBuildSlice q40 [((nat_lit 0), (nat_lit 2), g46)] (nat_lit 1))) p47 
(oSet (xTurn (tnAppend (nat_lit 2) g36 g47)) p48 
(oSet (xMove g48) p10 
oEnd)))))))))))))) kSkip)) (kSeq (oSet (xMove g0) p49 
(oSet (xCall q277 [g49]) p50 
(oSet (xMove g1) p51 
(oSet (xMove g1) p52 
(oSet (xLook (lkBin .add g52 q14)) p53 
(oSet (xCall q278 [g50, g51, g53]) p54 
(oSet (xMove g54) p11 
oEnd))))))) (kSeq (oSet (xMove g11) p55 
(oSet (xMove g1) p56 
(oSet (xMove g10) p57 
(oSet (xCall q279 [g55, g56, g57]) p58 
(oSet (xMove g58) p8 
oEnd))))) kRet)))))))⟩
def q280 : OpdF := kC (.func (.func (nat_lit 265)) ⟨[]⟩ ⟨[]⟩)
noncomputable def k211 : KFun := ⟨[rCellN (nat_lit 4) g4 (nat_lit 32), rTmp (nat_lit 5) g5], (kSeq (oSet (xTurn (tnAlloc q9)) p4 
(oSet (xMove q6) p5 
oEnd)) (kSeq (kSeq (oSet (xMove g0) p7 
(oSet (xMove g1) p8 
(oSet (xCall q280 [g7, g8]) p9 
(oSet (xMove g9) p6 
oEnd)))) (kSeq (oSet (xMove g6) p10 
(oSet (xLook (lkEq true .int g10 q6)) p11 
oEnd)) (kCond g11 (kSeq (oSet (xLook (lkBuild q9 [])) p12 
(oSet (xMove g6) p13 
(oDo (xTurn (tnStore (nat_lit 32) g4 g12)) 
(oSet (xMove g13) p5 
oEnd)))) kRet) kSkip))) (kSeq (oSet (xMove g1) p14 
(oSet (xCall q30 [g14]) p15 
(oDo (xTurn (tnStore (nat_lit 32) g4 g15)) 
(oSet (xMove q6) p5 
oEnd)))) kRet)))⟩
def q281 : OpdF := kC (.string ⟨⟨[108, 101, 110, 32, 111, 117, 116, 32, 111, 102, 32, 114, 97, 110, 103, 101]⟩⟩)
def q282 : OpdF := kC (.func (.func (nat_lit 266)) ⟨[]⟩ ⟨[]⟩)
noncomputable def k212 : KFun := ⟨[rTmp (nat_lit 2) g2], (kSeq (oSet (xMove q12) p2 
oEnd) (kSeq (oSet (xMove q6) p3 
oEnd) (kSeq (kSeq (oSet (xMove g0) p9 
(oSet (xLook (lkLen .sl g9)) p10 
(oSet (xMove q6) p11 
oEnd))) (kBlock (nat_lit 0) (kLoop (kSeq (oSet (xLook (lkBin .lss g11 g10)) p12 
oEnd) (kSeq (kCond g12 kSkip (kExit (nat_lit 0))) (kSeq (kBlock (nat_lit 1) (kSeq (oSet (xLook (lkIxSl (nat_lit 1) g9 g11)) p13 
(oSet (xLook (lkLoad1 g13)) p14 
(oSet (xMove g14) p5 
oEnd))) (kSeq (oSet (xMove g3) p15 
(oSet (xMove g5) p16 
(oSet (xLook (lkLen .sl g16)) p17 
(oSet (xLook (lkBin .add g15 g17)) p18 
(oSet (xMove g18) p3 
oEnd))))) (kSeq (oSet (xMove g3) p19 
(oSet (xLook (lkBin .lss g19 q6)) p20 
oEnd)) (kCond g20 (oSet (xLook (lkMkIface (nat_lit 9) q281)) p21 
(oDo (xPanic g21) 
oEnd)) kSkip))))) (oSet (xLook (lkBin .add g11 q14)) p22 
(oSet (xMove g22) p11 
oEnd)))))))) (kSeq (oSet (xMove g3) p23 
(oSet (xCall q282 [q12, g23]) p24 
(oSet (xMove g24) p6 
oEnd))) (kSeq (kSeq (oSet (xMove g0) p25 
(oSet (xLook (lkLen .sl g25)) p26 
(oSet (xMove q6) p27 
oEnd))) (kBlock (nat_lit 2) (kLoop (kSeq (oSet (xLook (lkBin .lss g27 g26)) p28 
oEnd) (kSeq (kCond g28 kSkip (kExit (nat_lit 2))) (kSeq (kBlock (nat_lit 3) (kSeq (oSet (xLook (lkIxSl (nat_lit 1) g25 g27)) p29 
(oSet (xLook (lkLoad1 g29)) p30 
(oSet (xMove g30) p8 
oEnd))) (oSet (xMove g6) p31 
(oSet (xMove g8) p32 
(oSet (xTurn (tnAppend (nat_lit 1) g31 g32)) p33 
(oSet (xMove g33) p6 
oEnd)))))) (oSet (xLook (lkBin .add g27 q14)) p34 
(oSet (xMove g34) p27 
oEnd)))))))) (kSeq (oSet (xMove g6) p35 
(oSet (xMove g35) p2 
oEnd)) kRet))))))⟩
def q283 : OpdF := kC (.string ⟨⟨[99, 97, 110, 110, 111, 116, 32, 98, 101, 32, 108, 101, 115, 115, 32, 116, 104, 97, 110, 32, 49]⟩⟩)
noncomputable def k213 : KFun := ⟨[rTmp (nat_lit 4) g4], (kSeq (oSet (xTurn (tnBox g0)) p2 
(oSet (xTurn (tnBox g1)) p3 
(oSet (xMove q129) p4 
oEnd))) (kSeq (kSeq (oSet (xLook (lkLoad1 g3)) p5 
(oSet (xLook (lkBin .lss g5 q14)) p6 
oEnd)) (kCond g6 (oSet (xLook (lkMkIface (nat_lit 9) q283)) p7 
(oDo (xPanic g7) 
oEnd)) kSkip)) (kSeq (oSet (xLook (lkMkFunc (.func (nat_lit 267)) [] [g2, g3])) p8 
(oSet (xMove g8) p4 
oEnd)) kRet)))⟩
noncomputable def k214 : KFun := ⟨[rTmp (nat_lit 6) g6], (kSeq (oSet (xTurn (tnBox g0)) p3 
(oSet (xTurn (tnBox g1)) p4 
(oSet (xTurn (tnBox g2)) p5 
(oSet (xMove q6) p6 
oEnd)))) (kSeq (kSeq (oSet (xLook (lkLoad1 g3)) p8 
(oSet (xLook (lkLoad1 g4)) p9 
(oSet (xCall q107 [g8, g9]) p10 
(oSet (xMove g10) p7 
oEnd)))) (kSeq (oSet (xMove g7) p11 
(oSet (xLook (lkEq true .int g11 q6)) p12 
oEnd)) (kCond g12 (kSeq (oSet (xMove g7) p13 
(oSet (xMove g13) p6 
oEnd)) kRet) kSkip))) (kSeq (kSeq (oSet (xLook (lkLoad1 g5)) p14 
(oSet (xLook (lkLen .sl g14)) p15 
(oSet (xLook (lkEq true .int g15 q86)) p16 
oEnd))) (kCond g16 (kSeq (oSet (xMove q7) p6 
oEnd) kRet) kSkip)) (kSeq (oSet (xLook (lkLoad1 g3)) p17 
(oSet (xNil g17) p18 
(oSet (xLook (lkFieldAddr (nat_lit 0) g18)) p19 
(oSet (xLook (lkMkFunc (.func (nat_lit 268)) [] [g3, g4, g5])) p20 
(oSet (xCall q179 [g19, g20]) p21 
(oSet (xMove g21) p6 
oEnd)))))) kRet))))⟩
noncomputable def k215 : KFun := ⟨[rTmp (nat_lit 4) g4], (kSeq (oSet (xMove q6) p4 
oEnd) (kSeq (kSeq (oSet (xMove g0) p5 
(oSet (xNil g5) p6 
(oSet (xLook (lkFieldAddr (nat_lit 2) g6)) p7 
(oSet (xLook (lkLoad1 g7)) p8 
(oSet (xMove g8) p9 
(oSetIf (wantF g9) (xMove g0) p10 
(oSetIf (wantF g9) (xNil g10) p11 
(oSetIf (wantF g9) (xLook (lkFieldAddr (nat_lit 1) g11)) p12 
(oSetIf (wantF g9) (xLook (lkLoad1 g12)) p13 
(oSetIf (wantF g9) (xLook (lkEq false .int g13 q6)) p14 
(oSet (xLook (lkPick g9 q13 g14)) p15 
oEnd))))))))))) (kCond g15 (kSeq (oSet (xMove g0) p16 
(oSet (xNil g16) p17 
(oSet (xLook (lkFieldAddr (nat_lit 2) g17)) p18 
(oDo (xTurn (tnStore (nat_lit 1) g18 q13)) 
oEnd)))) (kSeq (oSet (xMove q37) p4 
oEnd) kRet)) kSkip)) (kSeq (kSeq (oSet (xMove g0) p19 
(oSet (xNil g19) p20 
(oSet (xLook (lkFieldAddr (nat_lit 1) g20)) p21 
(oSet (xLook (lkLoad1 g21)) p22 
(oSet (xLook (lkBin .gtr g22 q6)) p23 
oEnd))))) (kCond g23 (oSet (xMove g0) p24 
(oSet (xNil g24) p25 
(oSet (xLook (lkFieldAddr (nat_lit 1) g25)) p26 
(oSet (xLook (lkLoad1 g26)) p27 
(oSet (xLook (lkBin .sub g27 q14)) p28 
(oSet (xNil g24) p29 
(oSet (xLook (lkFieldAddr (nat_lit 1) g29)) p30 
(oDo (xTurn (tnStore (nat_lit 1) g30 g28)) 
oEnd)))))))) kSkip)) (kSeq (oSet (xMove g0) p31 
(oSet (xNil g31) p32 
(oSet (xLook (lkFieldAddr (nat_lit 0) g32)) p33 
(oSet (xLook (lkLoad1 g33)) p34 
(oSet (xLook (lkBin .add g34 q14)) p35 
(oSet (xNil g31) p36 
(oSet (xLook (lkFieldAddr (nat_lit 0) g36)) p37 
(oDo (xTurn (tnStore (nat_lit 1) g37 g35)) 
oEnd)))))))) (kSeq (oSet (xMove g1) p38 
(oSet (xCall g38 []) p39 
oEnd)) (kSeq (oSet (xMove q6) p4 
oEnd) kRet))))))⟩
noncomputable def k216 : KFun := ⟨[], (kSeq (kSeq (oSet (xLook (lkLoad1 g0)) p3 
(oSet (xNil g3) p4 
(oSet (xLook (lkFieldAddr (nat_lit 6) g4)) p5 
(oSet (xLook (lkLoad1 g5)) p6 
(oSet (xLook (lkLen .sl g6)) p7 
(oSet (xMove q6) p8 
oEnd)))))) (kBlock (nat_lit 0) (kLoop (kSeq (oSet (xLook (lkBin .lss g8 g7)) p9 
oEnd) (kSeq (kCond g9 kSkip (kExit (nat_lit 0))) (kSeq (kBlock (nat_lit 1) (kSeq (oSet (xLook (lkIxSl (nat_lit 65) g6 g8)) p10 
(oSet (xLook (lkLoadN (nat_lit 65) g10)) p11 
(oSet (xTurn (tnAlloc q109)) p2 
(oDo (xTurn (tnStore (nat_lit 65) g2 g11)) 
oEnd)))) (kDraw 
(dLook (nat_lit 0) [] [] (lkLoad1 g0) p12 
(dTurn (nat_lit 1) [] [] false (xNil g12) p13 
(dLook (nat_lit 2) [] [] (lkFieldAddr (nat_lit 5) g13) p14 
(dLook (nat_lit 3) [] [] (lkLoad1 g14) p15 
(dLook (nat_lit 4) [] [] (lkFieldAddr (nat_lit 0) g2) p16 
(dLook (nat_lit 5) [] [] (lkLoad1 g16) p17 
(dLook (nat_lit 6) [] [] (lkFieldAddr (nat_lit 1) g2) p18 
(dLook (nat_lit 7) [] [] (lkLoadN (nat_lit 64) g18) p19 
(dTurn (nat_lit 8) [] [] true (xTurn (tnMapUpdate (.one (.int .i64)) g15 g17 g19)) noDst (dEnd [(nat_lit 12), (nat_lit 13), (nat_lit 14), (nat_lit 15), (nat_lit 16), (nat_lit 17), (nat_lit 18), (nat_lit 19)]))))))))))))) (oSet (xLook (lkBin .add g8 q14)) p20 
(oSet (xMove g20) p8 
oEnd)))))))) (oSet (xLook (lkLoad1 g0)) p21 
(oSet (xNil g21) p22 
(oSet (xLook (lkFieldAddr (nat_lit 6) g22)) p23 
(oDo (xTurn (tnStore (nat_lit 1) g23 q12)) 
oEnd)))))⟩
def q284 : OpdF := kC (.func (.func (nat_lit 269)) ⟨[]⟩ ⟨[]⟩)
def q285 : List Value := [(.slice none (nat_lit 0) (nat_lit 0)), (.slice none (nat_lit 0) (nat_lit 0)), (.slice none (nat_lit 0) (nat_lit 0)), (.slice none (nat_lit 0) (nat_lit 0)), (.slice none (nat_lit 0) (nat_lit 0))]
def q286 : OpdF := kC (.func (.func (nat_lit 270)) ⟨[]⟩ ⟨[]⟩)
def q287 : OpdF := kC (.int .u8 (.ofNat (nat_lit 82)))
def q288 : OpdF := kC (.int .u8 (.ofNat (nat_lit 67)))
noncomputable def k217 : KFun := ⟨[rTmp (nat_lit 2) g2, rTmp (nat_lit 3) g3], (kSeq (oSet (xTurn (tnBox g0)) p1 
(oSet (xMove q12) p2 
(oSet (xMove q6) p3 
oEnd))) (kSeq (kSeq (oSet (xLook (lkLoadN (nat_lit 35) g1)) p7 
(oSet (xCall q284 [g7]) p8 
(oSet (xMove g8) p4 
oEnd))) (kSeq (oSet (xMove g4) p9 
(oSet (xLook (lkEq true .int g9 q6)) p10 
oEnd)) (kCond g10 (kSeq (oSet (xMove g4) p11 
(oSet (xMove q12) p2 
(oSet (xMove g11) p3 
oEnd))) kRet) kSkip))) (kSeq (kDraw 
(dTurn (nat_lit 0) [] [] false (xTurn (tnBuildSlice q60 [((nat_lit 0), (nat_lit 1), q287), ((nat_lit 1), (nat_lit 1), q288)] (nat_lit 2))) p12 
(dLook (nat_lit 1) [] [] (lkFieldAddr (nat_lit 0) g1) p13 
(dLook (nat_lit 2) [] [] (lkLoad1 g13) p14 
(dTurn (nat_lit 3) [] [] true (xCall q286 [g14, q44]) p15 
(dLook (nat_lit 4) [] [] (lkFieldAddr (nat_lit 1) g1) p16 
(dLook (nat_lit 5) [] [] (lkSliceArr (nat_lit 32) (nat_lit 1) g16 none none none) p17 
(dLook (nat_lit 6) [] [] (lkFieldAddr (nat_lit 33) g1) p18 
(dLook (nat_lit 7) [(nat_lit 3)] [] (lkLoad1 g18) p19 
(dTurn (nat_lit 8) [] [(nat_lit 3)] true (xCall q286 [g19, q43]) p20 
(dLook (nat_lit 9) [] [] (lkFieldAddr (nat_lit 34) g1) p21 
(dLook (nat_lit 10) [(nat_lit 3), (nat_lit 8)] [] (lkLoad1 g21) p22 
(dTurn (nat_lit 11) [] [(nat_lit 3), (nat_lit 8)] true (xCall q286 [g22, q43]) p23 
(dTurn (nat_lit 12) [] [(nat_lit 3), (nat_lit 8), (nat_lit 11)] false (xTurn (tnBuildSlice q285 [((nat_lit 0), (nat_lit 1), g12), ((nat_lit 1), (nat_lit 1), g15), ((nat_lit 2), (nat_lit 1), g17), ((nat_lit 3), (nat_lit 1), g20), ((nat_lit 4), (nat_lit 1), g23)] (nat_lit 5))) p24 
(dTurn (nat_lit 13) [] [(nat_lit 3), (nat_lit 8), (nat_lit 11)] true (xCall q174 [g24]) p25 
(dLook (nat_lit 14) [] [(nat_lit 3), (nat_lit 8), (nat_lit 11), (nat_lit 13)] (lkMove g25) p5 (dEnd [(nat_lit 12), (nat_lit 13), (nat_lit 14), (nat_lit 15), (nat_lit 16), (nat_lit 17), (nat_lit 18), (nat_lit 19), (nat_lit 20), (nat_lit 21), (nat_lit 22), (nat_lit 23), (nat_lit 24), (nat_lit 25), (nat_lit 5)]))))))))))))))))) (kSeq (oSet (xMove g5) p26 
(oSet (xCall q30 [g26]) p27 
(oSet (xTurn (tnAlloc q9)) p6 
(oDo (xTurn (tnStore (nat_lit 32) g6 g27)) 
oEnd)))) (kSeq (oSet (xMove g5) p28 
(oSet (xLook (lkSliceArr (nat_lit 32) (nat_lit 1) g6 none (some q63) none)) p29 
(oSet (xTurn (tnAppend (nat_lit 1) g28 g29)) p30 
(oSet (xMove g30) p2 
(oSet (xMove q6) p3 
oEnd))))) kRet)))))⟩
def q289 : List Value := [(.slice none (nat_lit 0) (nat_lit 0)), (.int .i64 (.ofNat (nat_lit 0))), (.int .u8 (.ofNat (nat_lit 0))), (.int .u8 (.ofNat (nat_lit 0))), (.int .u8 (.ofNat (nat_lit 0))), (.int .u8 (.ofNat (nat_lit 0))), (.int .u8 (.ofNat (nat_lit 0))), (.int .u8 (.ofNat (nat_lit 0))), (.int .u8 (.ofNat (nat_lit 0))), (.int .u8 (.ofNat (nat_lit 0))), (.int .u8 (.ofNat (nat_lit 0))), (.int .u8 (.ofNat (nat_lit 0))), (.int .u8 (.ofNat (nat_lit 0))), (.int .u8 (.ofNat (nat_lit 0))), (.int .u8 (.ofNat (nat_lit 0))), (.int .u8 (.ofNat (nat_lit 0))), (.int .u8 (.ofNat (nat_lit 0))), (.int .u8 (.ofNat (nat_lit 0))), (.int .u8 (.ofNat (nat_lit 0))), (.int .u8 (.ofNat (nat_lit 0))), (.int .u8 (.ofNat (nat_lit 0))), (.int .u8 (.ofNat (nat_lit 0))), (.int .u8 (.ofNat (nat_lit 0))), (.int .u8 (.ofNat (nat_lit 0))), (.int .u8 (.ofNat (nat_lit 0))), (.int .u8 (.ofNat (nat_lit 0))), (.int .u8 (.ofNat (nat_lit 0))), (.int .u8 (.ofNat (nat_lit 0))), (.int .u8 (.ofNat (nat_lit 0))), (.int .u8 (.ofNat (nat_lit 0))), (.int .u8 (.ofNat (nat_lit 0))), (.int .u8 (.ofNat (nat_lit 0))), (.int .u8 (.ofNat (nat_lit 0))), (.int .u8 (.ofNat (nat_lit 0))), (.int .i64 (.ofNat (nat_lit 0))), (.int .i64 (.ofNat (nat_lit 0)))]
def q290 : OpdF := kC (.int .u8 (.ofNat (nat_lit 0)))
def q291 : OpdF := kC (.func (.func (nat_lit 271)) ⟨[]⟩ ⟨[]⟩)
noncomputable def k218 : KFun := ⟨[rCellN (nat_lit 2) g2 (nat_lit 35), rTmp (nat_lit 3) g3], (kSeq (oSet (xTurn (tnAlloc q35)) p2 
(oSet (xMove q0) p3 
oEnd)) (kSeq (kSeq (oSet (xMove g0) p6 
(oSet (xLook (lkLen .sl g6)) p7 
(oSet (xLook (lkEq true .int g7 q86)) p8 
(oSet (xMove g8) p9 
(oSetIf (wantF g9) (xMove g0) p10 
(oSetIf (wantF g9) (xLook (lkIxSl (nat_lit 1) g10 q6)) p11 
(oSetIf (wantF g9) (xLook (lkLoad1 g11)) p12 
(oSetIf (wantF g9) (xLook (lkEq true .int g12 q287)) p13 
(oSet (xLook (lkPick g9 q13 g13)) p14 
(oSet (xMove g14) p15 
(oSetIf (wantF g15) (xMove g0) p16 
(oSetIf (wantF g15) (xLook (lkIxSl (nat_lit 1) g16 q14)) p17 
(oSetIf (wantF g15) (xLook (lkLoad1 g17)) p18 
(oSetIf (wantF g15) (xLook (lkEq true .int g18 q288)) p19 
(oSet (xLook (lkPick g15 q13 g19)) p20 
oEnd))))))))))))))) (kCond g20 (kSeq (oSet (xLook (lkBuild q35 [])) p21 
(oDo (xTurn (tnStore (nat_lit 35) g2 g21)) 
(oSet (xMove q0) p3 
oEnd))) kRet) kSkip)) (kSeq (oSet (xMove g0) p22 
(oSet (xLook (lkSliceSl (nat_lit 1) g22 none (some q200) none)) p23 
(oSet (xCall q30 [g23]) p24 
(oSet (xTurn (tnAlloc q9)) p4 
(oDo (xTurn (tnStore (nat_lit 32) g4 g24)) 
oEnd))))) (kSeq (kSeq (kDraw 
(dLook (nat_lit 0) [] [] (lkSliceArr (nat_lit 32) (nat_lit 1) g4 none (some q63) none) p25 
(dLook (nat_lit 1) [] [] (lkMove g0) p26 
(dLook (nat_lit 2) [] [] (lkSliceSl (nat_lit 1) g26 (some q200) none none) p27 
(dTurn (nat_lit 3) [] [] true (xCall q117 [g25, g27]) p28 
(dLook (nat_lit 4) [] [(nat_lit 3)] (lkUn .not g28) p29 (dEnd [(nat_lit 25), (nat_lit 26), (nat_lit 27), (nat_lit 28), (nat_lit 29)]))))))) (kCond g29 (kSeq (oSet (xLook (lkBuild q35 [])) p30 
(oDo (xTurn (tnStore (nat_lit 35) g2 g30)) 
(oSet (xMove q0) p3 
oEnd))) kRet) kSkip)) (kSeq (oSet (xMove g0) p31 
(oSet (xLook (lkSliceSl (nat_lit 1) g31 (some q7) none none)) p32 
(oSet (xLook (lkBuild q101 [((nat_lit 0), (nat_lit 1), g32)])) p33 
(oSet (xLook (lkBuild q289 [((nat_lit 0), (nat_lit 1), g33)])) p34 
(oSet (xTurn (tnBox g34)) p35 
(oSet (xMove g35) p5 
oEnd)))))) (kSeq (kSeq (oSet (xMove g5) p36 
(oSet (xNil g36) p37 
(oSet (xLook (lkFieldAddr (nat_lit 0) g37)) p38 
(oSet (xLook (lkFieldAddr (nat_lit 0) g38)) p39 
(oSet (xLook (lkLoad1 g39)) p40 
(oSet (xLook (lkIxSl (nat_lit 1) g40 q6)) p41 
(oSet (xLook (lkLoad1 g41)) p42 
(oSet (xLook (lkEq true .int g42 q290)) p43 
oEnd)))))))) (kCond g43 (kSeq (oSet (xLook (lkBuild q35 [])) p44 
(oDo (xTurn (tnStore (nat_lit 35) g2 g44)) 
(oSet (xMove q0) p3 
oEnd))) kRet) kSkip)) (kSeq (oSet (xMove g5) p45 
(oSet (xMove g5) p46 
(oSet (xNil g46) p47 
(oSet (xLook (lkFieldAddr (nat_lit 0) g47)) p48 
(oSet (xCall q291 [g48, q44]) p49 
(oSet (xNil g45) p50 
(oSet (xLook (lkFieldAddr (nat_lit 1) g50)) p51 
(oSet (xLook (lkFieldAddr (nat_lit 0) g51)) p52 
(oDo (xTurn (tnStore (nat_lit 1) g52 g49)) 
oEnd))))))))) (kSeq (kDraw 
(dLook (nat_lit 0) [] [] (lkMove g5) p53 
(dTurn (nat_lit 1) [] [] false (xNil g53) p54 
(dLook (nat_lit 2) [] [] (lkFieldAddr (nat_lit 1) g54) p55 
(dLook (nat_lit 3) [] [] (lkFieldAddr (nat_lit 1) g55) p56 
(dLook (nat_lit 4) [] [] (lkSliceArr (nat_lit 32) (nat_lit 1) g56 none none none) p57 
(dLook (nat_lit 5) [] [] (lkMove g5) p58 
(dTurn (nat_lit 6) [] [] false (xNil g58) p59 
(dLook (nat_lit 7) [] [] (lkFieldAddr (nat_lit 0) g59) p60 
(dLook (nat_lit 8) [] [] (lkFieldAddr (nat_lit 0) g60) p61 
(dLook (nat_lit 9) [] [] (lkLoad1 g61) p62 
(dTurn (nat_lit 10) [] [] true (xTurn (tnCopy (nat_lit 1) g57 g62)) p63 (dEnd [(nat_lit 53), (nat_lit 54), (nat_lit 55), (nat_lit 56), (nat_lit 57), (nat_lit 58), (nat_lit 59), (nat_lit 60), (nat_lit 61), (nat_lit 62), (nat_lit 63)]))))))))))))) (kSeq (oSet (xMove g5) p64 
(oSet (xMove g5) p65 
(oSet (xNil g65) p66 
(oSet (xLook (lkFieldAddr (nat_lit 0) g66)) p67 
(oSet (xLook (lkFieldAddr (nat_lit 0) g67)) p68 
(oSet (xLook (lkLoad1 g68)) p69 
(oSet (xLook (lkSliceSl (nat_lit 1) g69 (some q208) none none)) p70 
(oSet (xNil g64) p71 
(oSet (xLook (lkFieldAddr (nat_lit 0) g71)) p72 
(oSet (xLook (lkFieldAddr (nat_lit 0) g72)) p73 
(oDo (xTurn (tnStore (nat_lit 1) g73 g70)) 
oEnd))))))))))) (kSeq (kDraw 
(dLook (nat_lit 0) [] [] (lkMove g5) p74 
(dLook (nat_lit 1) [] [] (lkMove g5) p75 
(dLook (nat_lit 2) [] [] (lkMove g5) p76 
(dTurn (nat_lit 3) [] [] false (xNil g76) p77 
(dLook (nat_lit 4) [] [] (lkFieldAddr (nat_lit 0) g77) p78 
(dTurn (nat_lit 5) [] [] true (xCall q291 [g78, q43]) p79 
(dLook (nat_lit 6) [] [] (lkMove g5) p80 
(dTurn (nat_lit 7) [] [] false (xNil g80) p81 
(dLook (nat_lit 8) [] [] (lkFieldAddr (nat_lit 0) g81) p82 
(dTurn (nat_lit 9) [] [(nat_lit 5)] true (xCall q291 [g82, q43]) p83 
(dTurn (nat_lit 10) [] [(nat_lit 5), (nat_lit 9)] false (xNil g74) p84 
(dLook (nat_lit 11) [] [(nat_lit 5), (nat_lit 9)] (lkFieldAddr (nat_lit 1) g84) p85 
(dLook (nat_lit 12) [] [(nat_lit 5), (nat_lit 9)] (lkFieldAddr (nat_lit 33) g85) p86 
(dTurn (nat_lit 13) [] [(nat_lit 5), (nat_lit 9)] true (xTurn (tnStore (nat_lit 1) g86 g79)) noDst 
(dTurn (nat_lit 14) [] [(nat_lit 5), (nat_lit 9), (nat_lit 13)] false (xNil g75) p87 
(dLook (nat_lit 15) [] [(nat_lit 5), (nat_lit 9), (nat_lit 13)] (lkFieldAddr (nat_lit 1) g87) p88 
(dLook (nat_lit 16) [] [(nat_lit 5), (nat_lit 9), (nat_lit 13)] (lkFieldAddr (nat_lit 34) g88) p89 
(dTurn (nat_lit 17) [] [(nat_lit 5), (nat_lit 9), (nat_lit 13)] true (xTurn (tnStore (nat_lit 1) g89 g83)) noDst (dEnd [(nat_lit 74), (nat_lit 75), (nat_lit 76), (nat_lit 77), (nat_lit 78), (nat_lit 79), (nat_lit 80), (nat_lit 81), (nat_lit 82), (nat_lit 83), (nat_lit 84), (nat_lit 85), (nat_lit 86), (nat_lit 87), (nat_lit 88), (nat_lit 89)])))))))))))))))))))) (kSeq (kSeq (oSet (xMove g5) p90 
(oSet (xNil g90) p91 
(oSet (xLook (lkFieldAddr (nat_lit 1) g91)) p92 
(oSet (xLook (lkLoadN (nat_lit 35) g92)) p93 
(oSet (xCall q284 [g93]) p94 
(oSet (xLook (lkEq true .int g94 q6)) p95 
oEnd)))))) (kCond g95 (kSeq (oSet (xLook (lkBuild q35 [])) p96 
(oDo (xTurn (tnStore (nat_lit 35) g2 g96)) 
(oSet (xMove q0) p3 
oEnd))) kRet) kSkip)) (kSeq (oSet (xMove g5) p97 
(oSet (xNil g97) p98 
(oSet (xLook (lkFieldAddr (nat_lit 1) g98)) p99 
(oSet (xLook (lkLoadN (nat_lit 35) g99)) p100 
(oDo (xTurn (tnStore (nat_lit 35) g2 g100)) 
(oSet (xMove q13) p3 
oEnd)))))) kRet))))))))))))⟩
def q292 : List Value := [(.bool false)]
noncomputable def k219 : KFun := ⟨[rCell1 (nat_lit 4) g4], (kSeq (oSet (xTurn (tnBox g0)) p2 
(oSet (xTurn (tnAlloc q292)) p4 
oEnd)) (kSeq (kSeq (oSet (xLook (lkLoad1 g2)) p6 
(oSet (xLook (lkEq false .ptr g6 q3)) p7 
(oSet (xMove g7) p8 
(oSetIf (wantF g8) (xLook (lkLoad1 g2)) p9 
(oSetIf (wantF g8) (xNil g9) p10 
(oSetIf (wantF g8) (xLook (lkFieldAddr (nat_lit 0) g10)) p11 
(oSetIf (wantF g8) (xCall q186 [g11]) p12 
(oSet (xLook (lkPick g8 q13 g12)) p13 
(oSet (xMove g13) p14 
(oSetIf (wantF g14) (xLook (lkLoad1 g2)) p15 
(oSetIf (wantF g14) (xNil g15) p16 
(oSetIf (wantF g14) (xLook (lkFieldAddr (nat_lit 0) g16)) p17 
(oSetIf (wantF g14) (xLook (lkFieldAddr (nat_lit 2) g17)) p18 
(oSetIf (wantF g14) (xLook (lkFieldAddr (nat_lit 0) g18)) p19 
(oSetIf (wantF g14) (xLook (lkLoad1 g19)) p20 
(oSetIf (wantF g14) (xLook (lkEq true .int g20 q6)) p21 
(oSet (xLook (lkPick g14 q13 g21)) p22 
oEnd))))))))))))))))) (kCond g22 (kSeq (oDo (xTurn (tnStore (nat_lit 1) g4 q0)) 
oEnd) kRet) kSkip)) (kSeq (oSet (xLook (lkLoad1 g2)) p23 
(oSet (xNil g23) p24 
(oSet (xLook (lkFieldAddr (nat_lit 4) g24)) p25 
(oSet (xLook (lkLoad1 g25)) p26 
(oSet (xTurn (tnAlloc q175)) p5 
(oDo (xTurn (tnStore (nat_lit 1) g5 g26)) 
oEnd)))))) (kSeq (oSet (xLook (lkMkFunc (.func (nat_lit 272)) [] [g4, g5, g2])) p27 
(oDo (xDefer g27 []) 
oEnd)) (kSeq (oSet (xMove g1) p28 
(oSet (xCall g28 []) p29 
oEnd)) kRet)))))⟩
def q293 : OpdF := kC (.func (.func (nat_lit 221)) ⟨[]⟩ ⟨[]⟩)
noncomputable def k220 : KFun := ⟨[], (oSet (xLook (lkLoad1 g0)) p3 
(oSet (xLook (lkLoad1 g1)) p4 
(oSet (xCall q293 [g3, q6, g4, q69]) p5 
(oDo (xTurn (tnStore (nat_lit 1) g2 g5)) 
oEnd))))⟩
def q294 : OpdF := kC (.func (.func (nat_lit 223)) ⟨[]⟩ ⟨[]⟩)
def q295 : OpdF := kC (.int .u8 (.ofNat (nat_lit 127)))
noncomputable def k221 : KFun := ⟨[rTmp (nat_lit 8) g8], (kSeq (oSet (xMove q6) p8 
oEnd) (kSeq (oSet (xMove g0) p14 
(oSet (xNil g14) p15 
(oSet (xLook (lkFieldAddr (nat_lit 4) g15)) p16 
(oSet (xLook (lkLoad1 g16)) p17 
(oSet (xTurn (tnAlloc q175)) p9 
(oDo (xTurn (tnStore (nat_lit 1) g9 g17)) 
(oSet (xMove q6) p10 
(oSet (xMove q6) p11 
oEnd)))))))) (kSeq (oSet (xLook (lkMkFunc (.func (nat_lit 273)) [] [g9])) p18 
(oSet (xMove g18) p12 
oEnd)) (kSeq (kBlock (nat_lit 0) (kLoop (kBlock (nat_lit 1) (kSeq (oSet (xMove g0) p19 
(oSet (xCall q294 [g19, q14]) p20 
(oSet (xLook (lkIxSl (nat_lit 1) g20 q6)) p21 
(oSet (xLook (lkLoad1 g21)) p22 
(oSet (xMove g22) p13 
oEnd))))) (kSeq (oSet (xMove g10) p23 
(oSet (xMove g13) p24 
(oSet (xLook (lkBin .and g24 q295)) p25 
(oSet (xLook (lkIntTo .i64 g25)) p26 
(oSet (xMove g11) p27 
(oSet (xLook (lkBin .mul q159 g27)) p28 
(oSet (xLook (lkBin .shl g26 g28)) p29 
(oSet (xLook (lkBin .or g23 g29)) p30 
(oSet (xMove g30) p10 
oEnd))))))))) (kSeq (oSet (xMove g11) p31 
(oSet (xLook (lkBin .add g31 q14)) p32 
(oSet (xMove g32) p11 
oEnd))) (kSeq (kSeq (oSet (xMove g13) p33 
(oSet (xLook (lkBin .lss g33 q89)) p34 
oEnd)) (kCond g34 (kSeq (kSeq (oSet (xMove g13) p35 
(oSet (xLook (lkEq false .int g35 q290)) p36 
(oSet (xMove g36) p37 
(oSetIf (wantT g37) (xMove g11) p38 
(oSetIf (wantT g37) (xLook (lkBin .gtr g38 q14)) p39 
(oSet (xLook (lkPick g37 g39 q0)) p40 
oEnd)))))) (kCond g40 (oSet (xMove g12) p41 
(oSet (xCall g41 [q43]) p42 
oEnd)) kSkip)) (kExit (nat_lit 0))) kSkip)) (kSeq (oSet (xMove g11) p43 
(oSet (xLook (lkEq false .int g43 q113)) p44 
oEnd)) (kCond g44 (oSet (xMove g12) p45 
(oSet (xCall g45 [q77]) p46 
oEnd)) kSkip))))))))) (kSeq (kBlock (nat_lit 2) (kSeq (oSet (xMove g10) p48 
(oSet (xMove g1) p49 
(oSet (xLook (lkBin .lss g48 g49)) p50 
(oSet (xMove g50) p47 
oEnd)))) (kCond g47 (oSet (xMove g12) p51 
(oSet (xCall g51 [q77]) p52 
oEnd)) (kSeq (oSet (xMove g10) p54 
(oSet (xMove g2) p55 
(oSet (xLook (lkBin .gtr g54 g55)) p56 
(oSet (xMove g56) p53 
oEnd)))) (kCond g53 (oSet (xMove g12) p57 
(oSet (xMove g3) p58 
(oSet (xCall g57 [g58]) p59 
oEnd))) kSkip))))) (kSeq (oSet (xMove g10) p60 
(oSet (xMove g60) p8 
oEnd)) kRet))))))⟩
noncomputable def k222 : KFun := ⟨[], (kDraw 
(dLook (nat_lit 0) [] [] (lkSliceArr (nat_lit 32) (nat_lit 1) g0 none none none) p2 
(dLook (nat_lit 1) [] [] (lkLoad1 g1) p3 
(dTurn (nat_lit 2) [] [] true (xCall q294 [g3, q208]) p4 
(dTurn (nat_lit 3) [] [(nat_lit 2)] true (xTurn (tnCopy (nat_lit 1) g2 g4)) p5 (dEnd [(nat_lit 2), (nat_lit 3), (nat_lit 4), (nat_lit 5)]))))))⟩
noncomputable def k223 : KFun := ⟨[rTmp (nat_lit 4) g4], (kSeq (oSet (xMove q12) p4 
oEnd) (kSeq (kSeq (kDraw 
(dLook (nat_lit 0) [] [] (lkMove g1) p5 
(dLook (nat_lit 1) [] [] (lkMove g0) p6 
(dTurn (nat_lit 2) [] [] false (xNil g6) p7 
(dLook (nat_lit 3) [] [] (lkFieldAddr (nat_lit 0) g7) p8 
(dLook (nat_lit 4) [] [] (lkFieldAddr (nat_lit 1) g8) p9 
(dLook (nat_lit 5) [] [] (lkLoad1 g9) p10 
(dLook (nat_lit 6) [] [] (lkLen .sl g10) p11 
(dLook (nat_lit 7) [] [] (lkMove g0) p12 
(dTurn (nat_lit 8) [] [] false (xNil g12) p13 
(dLook (nat_lit 9) [] [] (lkFieldAddr (nat_lit 4) g13) p14 
(dLook (nat_lit 10) [] [] (lkLoad1 g14) p15 
(dLook (nat_lit 11) [] [] (lkBin .sub g11 g15) p16 
(dLook (nat_lit 12) [] [] (lkBin .gtr g5 g16) p17 (dEnd [(nat_lit 5), (nat_lit 6), (nat_lit 7), (nat_lit 8), (nat_lit 9), (nat_lit 10), (nat_lit 11), (nat_lit 12), (nat_lit 13), (nat_lit 14), (nat_lit 15), (nat_lit 16), (nat_lit 17)]))))))))))))))) (kCond g17 (oSet (xMove g0) p18 
(oSet (xNil g18) p19 
(oSet (xLook (lkFieldAddr (nat_lit 0) g19)) p20 
(oSet (xLook (lkFieldAddr (nat_lit 1) g20)) p21 
(oSet (xLook (lkLoad1 g21)) p22 
(oSet (xLook (lkLen .sl g22)) p23 
(oSet (xLook (lkBuild q40 [((nat_lit 0), (nat_lit 1), q43), ((nat_lit 1), (nat_lit 1), g23)])) p24 
(oSet (xLook (lkBuild q40 [((nat_lit 0), (nat_lit 2), g24)])) p25 
(oSet (xLook (lkMkIface (nat_lit 402) g25)) p26 
(oDo (xPanic g26) 
oEnd)))))))))) kSkip)) (kSeq (oSet (xMove g0) p27 
(oSet (xNil g27) p28 
(oSet (xLook (lkFieldAddr (nat_lit 4) g28)) p29 
(oSet (xLook (lkLoad1 g29)) p30 
(oSet (xMove g1) p31 
(oSet (xLook (lkBin .add g30 g31)) p32 
(oSet (xNil g27) p33 
(oSet (xLook (lkFieldAddr (nat_lit 4) g33)) p34 
(oDo (xTurn (tnStore (nat_lit 1) g34 g32)) 
oEnd))))))))) (kSeq (kDraw 
(dLook (nat_lit 0) [] [] (lkMove g0) p35 
(dTurn (nat_lit 1) [] [] false (xNil g35) p36 
(dLook (nat_lit 2) [] [] (lkFieldAddr (nat_lit 0) g36) p37 
(dLook (nat_lit 3) [] [] (lkFieldAddr (nat_lit 1) g37) p38 
(dLook (nat_lit 4) [] [] (lkLoad1 g38) p39 
(dLook (nat_lit 5) [] [] (lkMove g0) p40 
(dTurn (nat_lit 6) [] [] false (xNil g40) p41 
(dLook (nat_lit 7) [] [] (lkFieldAddr (nat_lit 4) g41) p42 
(dLook (nat_lit 8) [] [] (lkLoad1 g42) p43 
(dLook (nat_lit 9) [] [] (lkMove g1) p44 
(dLook (nat_lit 10) [] [] (lkBin .sub g43 g44) p45 
(dLook (nat_lit 11) [] [] (lkMove g0) p46 
(dTurn (nat_lit 12) [] [] false (xNil g46) p47 
(dLook (nat_lit 13) [] [] (lkFieldAddr (nat_lit 4) g47) p48 
(dLook (nat_lit 14) [] [] (lkLoad1 g48) p49 
(dLook (nat_lit 15) [] [] (lkSliceSl (nat_lit 1) g39 (some g45) (some g49) none) p50 
(dLook (nat_lit 16) [] [] (lkMove g50) p4 (dEnd [(nat_lit 35), (nat_lit 36), (nat_lit 37), (nat_lit 38), (nat_lit 39), (nat_lit 40), (nat_lit 41), (nat_lit 42), (nat_lit 43), (nat_lit 44), (nat_lit 45), (nat_lit 46), (nat_lit 47), (nat_lit 48), (nat_lit 49), (nat_lit 50), (nat_lit 4)]))))))))))))))))))) kRet))))⟩
noncomputable def k224 : KFun := ⟨[], (oSet (xLook (lkLoad1 g0)) p4 
(oSet (xLook (lkLoad1 g1)) p5 
(oSet (xLook (lkLoad1 g2)) p6 
(oSet (xCall q293 [g4, g5, g6, q77]) p7 
(oDo (xTurn (tnStore (nat_lit 1) g3 g7)) 
oEnd)))))⟩
noncomputable def k225 : KFun := ⟨[rTmp (nat_lit 2) g2], (kSeq (oSet (xMove q0) p2 
oEnd) (kSeq (oSet (xMove g0) p3 
(oSet (xLook (lkEq false .ptr g3 q3)) p4 
(oSet (xMove g4) p5 
(oSetIf (wantF g5) (xMove g0) p6 
(oSetIf (wantF g5) (xNil g6) p7 
(oSetIf (wantF g5) (xLook (lkFieldAddr (nat_lit 0) g7)) p8 
(oSetIf (wantF g5) (xLook (lkLoad1 g8)) p9 
(oSetIf (wantF g5) (xLook (lkUn .not g9)) p10 
(oSet (xLook (lkPick g5 q13 g10)) p11 
(oSet (xMove g11) p2 
oEnd)))))))))) kRet))⟩
noncomputable def k226 : KFun := ⟨[rTmp (nat_lit 2) g2], (kSeq (oSet (xMove q6) p2 
oEnd) (kSeq (kSeq (oSet (xMove g0) p3 
(oSet (xLook (lkEq false .ptr g3 q3)) p4 
(oSet (xMove g4) p5 
(oSetIf (wantF g5) (xMove g0) p6 
(oSetIf (wantF g5) (xNil g6) p7 
(oSetIf (wantF g5) (xLook (lkFieldAddr (nat_lit 0) g7)) p8 
(oSetIf (wantF g5) (xCall q186 [g8]) p9 
(oSet (xLook (lkPick g5 q13 g9)) p10 
oEnd)))))))) (kCond g10 (kSeq (oSet (xMove q6) p2 
oEnd) kRet) kSkip)) (kSeq (kDraw 
(dLook (nat_lit 0) [] [] (lkMove g0) p11 
(dTurn (nat_lit 1) [] [] false (xNil g11) p12 
(dLook (nat_lit 2) [] [] (lkFieldAddr (nat_lit 0) g12) p13 
(dLook (nat_lit 3) [] [] (lkFieldAddr (nat_lit 1) g13) p14 
(dLook (nat_lit 4) [] [] (lkLoad1 g14) p15 
(dLook (nat_lit 5) [] [] (lkLen .sl g15) p16 
(dLook (nat_lit 6) [] [] (lkMove g0) p17 
(dTurn (nat_lit 7) [] [] false (xNil g17) p18 
(dLook (nat_lit 8) [] [] (lkFieldAddr (nat_lit 4) g18) p19 
(dLook (nat_lit 9) [] [] (lkLoad1 g19) p20 
(dLook (nat_lit 10) [] [] (lkBin .sub g16 g20) p21 
(dLook (nat_lit 11) [] [] (lkMove g21) p2 (dEnd [(nat_lit 11), (nat_lit 12), (nat_lit 13), (nat_lit 14), (nat_lit 15), (nat_lit 16), (nat_lit 17), (nat_lit 18), (nat_lit 19), (nat_lit 20), (nat_lit 21), (nat_lit 2)])))))))))))))) kRet)))⟩
def q296 : OpdF := kC (.func (.func (nat_lit 274)) ⟨[]⟩ ⟨[]⟩)
noncomputable def k227 : KFun := ⟨[], (kSeq (oSet (xMove g0) p5 
(oSet (xLook (lkLen .sl g5)) p6 
(oSet (xMove g6) p4 
oEnd))) (oSet (xMove g0) p7 
(oSet (xMove g4) p8 
(oSet (xMove g4) p9 
(oSet (xLook (lkIntTo .u64 g9)) p10 
(oSet (xCall q80 [g10]) p11 
(oSet (xMove g1) p12 
(oSet (xCall q296 [g7, q6, g8, g11, g12]) p13 
oEnd))))))))⟩
def q297 : OpdF := kC (.func (.func (nat_lit 275)) ⟨[]⟩ ⟨[]⟩)
noncomputable def k228 : KFun := ⟨[rTmp (nat_lit 4) g4], (kSeq (oSet (xTurn (tnBox g0)) p2 
(oSet (xTurn (tnBox g1)) p3 
(oSet (xMove q6) p4 
oEnd))) (kSeq (oSet (xLook (lkFieldAddr (nat_lit 0) g2)) p5 
(oSet (xLook (lkLoad1 g5)) p6 
(oSet (xLook (lkFieldAddr (nat_lit 0) g3)) p7 
(oSet (xLook (lkLoad1 g7)) p8 
(oSet (xCall q297 [g6, g8]) p9 
(oSet (xMove g9) p4 
oEnd)))))) kRet))⟩
noncomputable def k229 : KFun := ⟨[rTmp (nat_lit 2) g2], (kSeq (oSet (xTurn (tnBox g0)) p1 
(oSet (xMove q6) p2 
oEnd)) (kSeq (oSet (xLook (lkFieldAddr (nat_lit 0) g1)) p3 
(oSet (xLook (lkLoad1 g3)) p4 
(oSet (xLook (lkFieldAddr (nat_lit 1) g1)) p5 
(oSet (xLook (lkLoad1 g5)) p6 
(oSet (xLook (lkBin .add g4 g6)) p7 
(oSet (xMove g7) p2 
oEnd)))))) kRet))⟩
noncomputable def k230 : KFun := ⟨[rTmp (nat_lit 6) g6], (kSeq (oSet (xMove q0) p6 
oEnd) (kSeq (oSet (xMove g0) p7 
(oSet (xCall q126 [g7]) p8 
(oSet (xLook (lkEq true .int g8 q6)) p9 
(oSet (xMove g9) p10 
(oSetIf (wantF g10) (xMove g2) p11 
(oSetIf (wantF g10) (xLook (lkBin .lss g11 q14)) p12 
(oSet (xLook (lkPick g10 q13 g12)) p13 
(oSet (xMove g13) p14 
(oSetIf (wantF g14) (xMove g1) p15 
(oSetIf (wantF g14) (xLook (lkBin .lss g15 q6)) p16 
(oSet (xLook (lkPick g14 q13 g16)) p17 
(oSet (xMove g17) p18 
(oSetIf (wantF g18) (xMove g1) p19 
(oSetIf (wantF g18) (xLook (lkBin .geq g19 q68)) p20 
(oSet (xLook (lkPick g18 q13 g20)) p21 
(oSet (xMove g21) p22 
(oSetIf (wantF g22) (xMove g2) p23 
(oSetIf (wantF g22) (xMove g1) p24 
(oSetIf (wantF g22) (xLook (lkBin .sub q68 g24)) p25 
(oSetIf (wantF g22) (xLook (lkBin .gtr g23 g25)) p26 
(oSet (xLook (lkPick g22 q13 g26)) p27 
(oSet (xMove g27) p6 
oEnd)))))))))))))))))))))) kRet))⟩
def q298 : OpdF := kC (.func (.func (nat_lit 276)) ⟨[]⟩ ⟨[]⟩)
def q299 : OpdF := kC (.func (.func (nat_lit 277)) ⟨[]⟩ ⟨[]⟩)
noncomputable def k231 : KFun := ⟨[rTmp (nat_lit 4) g4], (kSeq (oSet (xMove q6) p4 
oEnd) (kSeq (oSet (xMove g0) p8 
(oSet (xMove g1) p9 
(oSet (xCall q298 [g8, g9, q299]) p10 
(oSet (xMove g10) p7 
(oSet (xLook (lkExtract (nat_lit 0) g7)) p11 
(oSet (xLook (lkExtract (nat_lit 1) g7)) p12 
(oSet (xMove g11) p5 
(oSet (xMove g12) p6 
oEnd)))))))) (kSeq (oSet (xMove g5) p13 
(oSet (xMove g13) p4 
oEnd)) kRet)))⟩
def q300 : CCode := (.region false [⟨none, (some (nat_lit 5)), (.alloc [(.int .u8 (.ofNat (nat_lit 0))), (.int .u8 (.ofNat (nat_lit 0))), (.int .u8 (.ofNat (nat_lit 0))), (.int .u8 (.ofNat (nat_lit 0))), (.int .u8 (.ofNat (nat_lit 0))), (.int .u8 (.ofNat (nat_lit 0))), (.int .u8 (.ofNat (nat_lit 0))), (.int .u8 (.ofNat (nat_lit 0))), (.int .u8 (.ofNat (nat_lit 0))), (.int .u8 (.ofNat (nat_lit 0))), (.int .u8 (.ofNat (nat_lit 0))), (.int .u8 (.ofNat (nat_lit 0))), (.int .u8 (.ofNat (nat_lit 0))), (.int .u8 (.ofNat (nat_lit 0))), (.int .u8 (.ofNat (nat_lit 0))), (.int .u8 (.ofNat (nat_lit 0))), (.int .u8 (.ofNat (nat_lit 0))), (.int .u8 (.ofNat (nat_lit 0))), (.int .u8 (.ofNat (nat_lit 0))), (.int .u8 (.ofNat (nat_lit 0))), (.int .u8 (.ofNat (nat_lit 0))), (.int .u8 (.ofNat (nat_lit 0))), (.int .u8 (.ofNat (nat_lit 0))), (.int .u8 (.ofNat (nat_lit 0))), (.int .u8 (.ofNat (nat_lit 0))), (.int .u8 (.ofNat (nat_lit 0))), (.int .u8 (.ofNat (nat_lit 0))), (.int .u8 (.ofNat (nat_lit 0))), (.int .u8 (.ofNat (nat_lit 0))), (.int .u8 (.ofNat (nat_lit 0))), (.int .u8 (.ofNat (nat_lit 0))), (.int .u8 (.ofNat (nat_lit 0)))]), (nat_lit 0), [], []⟩,
⟨none, none, (.store (nat_lit 32) (.tmp (nat_lit 5)) (.tmp (nat_lit 7))), (nat_lit 1), [], []⟩])
def q301 : CCode := (.block (nat_lit 1) (.region false [⟨none, (some (nat_lit 8)), (.load1 (.tmp (nat_lit 2))), (nat_lit 0), [], []⟩,
⟨none, (some (nat_lit 9)), (.loadN (nat_lit 32) (.tmp (nat_lit 5))), (nat_lit 1), [], []⟩,
⟨none, (some (nat_lit 10)), (.buildSlice [(.int .u8 (.ofNat (nat_lit 0))), (.int .u8 (.ofNat (nat_lit 0))), (.int .u8 (.ofNat (nat_lit 0))), (.int .u8 (.ofNat (nat_lit 0))), (.int .u8 (.ofNat (nat_lit 0))), (.int .u8 (.ofNat (nat_lit 0))), (.int .u8 (.ofNat (nat_lit 0))), (.int .u8 (.ofNat (nat_lit 0))), (.int .u8 (.ofNat (nat_lit 0))), (.int .u8 (.ofNat (nat_lit 0))), (.int .u8 (.ofNat (nat_lit 0))), (.int .u8 (.ofNat (nat_lit 0))), (.int .u8 (.ofNat (nat_lit 0))), (.int .u8 (.ofNat (nat_lit 0))), (.int .u8 (.ofNat (nat_lit 0))), (.int .u8 (.ofNat (nat_lit 0))), (.int .u8 (.ofNat (nat_lit 0))), (.int .u8 (.ofNat (nat_lit 0))), (.int .u8 (.ofNat (nat_lit 0))), (.int .u8 (.ofNat (nat_lit 0))), (.int .u8 (.ofNat (nat_lit 0))), (.int .u8 (.ofNat (nat_lit 0))), (.int .u8 (.ofNat (nat_lit 0))), (.int .u8 (.ofNat (nat_lit 0))), (.int .u8 (.ofNat (nat_lit 0))), (.int .u8 (.ofNat (nat_lit 0))), (.int .u8 (.ofNat (nat_lit 0))), (.int .u8 (.ofNat (nat_lit 0))), (.int .u8 (.ofNat (nat_lit 0))), (.int .u8 (.ofNat (nat_lit 0))), (.int .u8 (.ofNat (nat_lit 0))), (.int .u8 (.ofNat (nat_lit 0)))] [⟨(nat_lit 0), (nat_lit 32), (.tmp (nat_lit 9))⟩] (nat_lit 1)), (nat_lit 2), [], []⟩,
⟨none, (some (nat_lit 11)), (.append (nat_lit 32) (.tmp (nat_lit 8)) (.tmp (nat_lit 10))), (nat_lit 3), [], []⟩,
⟨none, none, (.store (nat_lit 1) (.tmp (nat_lit 2)) (.tmp (nat_lit 11))), (nat_lit 4), [], []⟩]))
noncomputable def k232 : KFun := ⟨[rTmp (nat_lit 4) g4], (kSeq (oSet (xTurn (tnBox g0)) p2 
(oSet (xMove q12) p4 
oEnd)) (kSeq (kSeq (oSet (xMove g1) p6 
oEnd) (kBlock (nat_lit 0) (kRange g6 [(nat_lit 7)] q300 q301))) (kSeq (oSet (xLook (lkLoad1 g2)) p12 
(oSet (xMove g12) p4 
oEnd)) kRet)))⟩
noncomputable def k256d0 : KD := 
(dLook (nat_lit 21) [] [(nat_lit 19)] (lkPick g23 g39 q0) p40 (dEnd [(nat_lit 19), (nat_lit 20), (nat_lit 21), (nat_lit 22), (nat_lit 23), (nat_lit 24), (nat_lit 25), (nat_lit 26), (nat_lit 27), (nat_lit 28), (nat_lit 29), (nat_lit 30), (nat_lit 31), (nat_lit 32), (nat_lit 33), (nat_lit 34), (nat_lit 35), (nat_lit 36), (nat_lit 37), (nat_lit 38), (nat_lit 39), (nat_lit 40)]))
noncomputable def k256d1 : KD := 
(dIf [(nat_lit 19)] (wantT g23) p39 (dLook (nat_lit 20) [] [(nat_lit 19)] (lkBin .lss g38 q6) p39 k256d0) k256d0)
noncomputable def k256d2 : KD := 
(dIf [] (wantT g23) p38 (dTurn (nat_lit 19) [] [] true (xCall g24 [g30, g37]) p38 k256d1) k256d1)
noncomputable def k256d3 : KD := 
(dIf [] (wantT g23) p37 (dLook (nat_lit 18) [] [] (lkLoadN (nat_lit 32) g36) p37 k256d2) k256d2)
noncomputable def k256d4 : KD := 
(dIf [] (wantT g23) p36 (dLook (nat_lit 17) [] [] (lkIxSl (nat_lit 32) g31 g35) p36 k256d3) k256d3)
noncomputable def k256d5 : KD := 
(dIf [] (wantT g23) p35 (dLook (nat_lit 16) [] [] (lkBin .add g34 q14) p35 k256d4) k256d4)
noncomputable def k256d6 : KD := 
(dIf [] (wantT g23) p34 (dLook (nat_lit 15) [] [] (lkBin .add g32 g33) p34 k256d5) k256d5)
noncomputable def k256d7 : KD := 
(dIf [] (wantT g23) p33 (dLook (nat_lit 14) [] [] (lkMove g11) p33 k256d6) k256d6)
noncomputable def k256d8 : KD := 
(dIf [] (wantT g23) p32 (dLook (nat_lit 13) [] [] (lkMove g3) p32 k256d7) k256d7)
noncomputable def k256d9 : KD := 
(dIf [] (wantT g23) p31 (dLook (nat_lit 12) [] [] (lkMove g0) p31 k256d8) k256d8)
noncomputable def k256d10 : KD := 
(dIf [] (wantT g23) p30 (dLook (nat_lit 11) [] [] (lkLoadN (nat_lit 32) g29) p30 k256d9) k256d9)
noncomputable def k256d11 : KD := 
(dIf [] (wantT g23) p29 (dLook (nat_lit 10) [] [] (lkIxSl (nat_lit 32) g25 g28) p29 k256d10) k256d10)
noncomputable def k256d12 : KD := 
(dIf [] (wantT g23) p28 (dLook (nat_lit 9) [] [] (lkBin .add g26 g27) p28 k256d11) k256d11)
noncomputable def k256d13 : KD := 
(dIf [] (wantT g23) p27 (dLook (nat_lit 8) [] [] (lkMove g11) p27 k256d12) k256d12)
noncomputable def k256d14 : KD := 
(dIf [] (wantT g23) p26 (dLook (nat_lit 7) [] [] (lkMove g3) p26 k256d13) k256d13)
noncomputable def k256d15 : KD := 
(dIf [] (wantT g23) p25 (dLook (nat_lit 6) [] [] (lkMove g0) p25 k256d14) k256d14)
noncomputable def k256 : KFun := ⟨[], (kSeq (oSet (xMove g1) p12 
(oSet (xMove g12) p10 
oEnd)) (kBlock (nat_lit 0) (kLoop (kBlock (nat_lit 1) (kSeq (oSet (xMove g10) p13 
(oSet (xLook (lkBin .mul q7 g13)) p14 
(oSet (xLook (lkBin .add g14 q14)) p15 
(oSet (xMove g15) p11 
oEnd)))) (kSeq (kSeq (oSet (xMove g11) p16 
(oSet (xMove g2) p17 
(oSet (xLook (lkBin .geq g16 g17)) p18 
oEnd))) (kCond g18 (kExit (nat_lit 0)) kSkip)) (kSeq (kSeq (kDraw 
(dLook (nat_lit 0) [] [] (lkMove g11) p19 
(dLook (nat_lit 1) [] [] (lkBin .add g19 q14) p20 
(dLook (nat_lit 2) [] [] (lkMove g2) p21 
(dLook (nat_lit 3) [] [] (lkBin .lss g20 g21) p22 
(dLook (nat_lit 4) [] [] (lkMove g22) p23 
(dIf [] (wantT g23) p24 (dLook (nat_lit 5) [] [] (lkMove g4) p24 k256d15) k256d15))))))) (kCond g40 (oSet (xMove g11) p41 
(oSet (xLook (lkBin .add g41 q14)) p42 
(oSet (xMove g42) p11 
oEnd))) kSkip)) (kSeq (kSeq (kDraw 
(dLook (nat_lit 0) [] [] (lkMove g4) p43 
(dLook (nat_lit 1) [] [] (lkMove g0) p44 
(dLook (nat_lit 2) [] [] (lkMove g3) p45 
(dLook (nat_lit 3) [] [] (lkMove g10) p46 
(dLook (nat_lit 4) [] [] (lkBin .add g45 g46) p47 
(dLook (nat_lit 5) [] [] (lkIxSl (nat_lit 32) g44 g47) p48 
(dLook (nat_lit 6) [] [] (lkLoadN (nat_lit 32) g48) p49 
(dLook (nat_lit 7) [] [] (lkMove g0) p50 
(dLook (nat_lit 8) [] [] (lkMove g3) p51 
(dLook (nat_lit 9) [] [] (lkMove g11) p52 
(dLook (nat_lit 10) [] [] (lkBin .add g51 g52) p53 
(dLook (nat_lit 11) [] [] (lkIxSl (nat_lit 32) g50 g53) p54 
(dLook (nat_lit 12) [] [] (lkLoadN (nat_lit 32) g54) p55 
(dTurn (nat_lit 13) [] [] true (xCall g43 [g49, g55]) p56 
(dLook (nat_lit 14) [] [(nat_lit 13)] (lkBin .lss g56 q6) p57 
(dLook (nat_lit 15) [] [(nat_lit 13)] (lkUn .not g57) p58 (dEnd [(nat_lit 43), (nat_lit 44), (nat_lit 45), (nat_lit 46), (nat_lit 47), (nat_lit 48), (nat_lit 49), (nat_lit 50), (nat_lit 51), (nat_lit 52), (nat_lit 53), (nat_lit 54), (nat_lit 55), (nat_lit 56), (nat_lit 57), (nat_lit 58)])))))))))))))))))) (kCond g58 kRet kSkip)) (kSeq (kDraw 
(dLook (nat_lit 0) [] [] (lkMove g0) p59 
(dLook (nat_lit 1) [] [] (lkMove g3) p60 
(dLook (nat_lit 2) [] [] (lkMove g10) p61 
(dLook (nat_lit 3) [] [] (lkBin .add g60 g61) p62 
(dLook (nat_lit 4) [] [] (lkMove g0) p63 
(dLook (nat_lit 5) [] [] (lkMove g3) p64 
(dLook (nat_lit 6) [] [] (lkMove g11) p65 
(dLook (nat_lit 7) [] [] (lkBin .add g64 g65) p66 
(dLook (nat_lit 8) [] [] (lkMove g0) p67 
(dLook (nat_lit 9) [] [] (lkMove g3) p68 
(dLook (nat_lit 10) [] [] (lkMove g11) p69 
(dLook (nat_lit 11) [] [] (lkBin .add g68 g69) p70 
(dLook (nat_lit 12) [] [] (lkIxSl (nat_lit 32) g67 g70) p71 
(dLook (nat_lit 13) [] [] (lkLoadN (nat_lit 32) g71) p72 
(dLook (nat_lit 14) [] [] (lkMove g0) p73 
(dLook (nat_lit 15) [] [] (lkMove g3) p74 
(dLook (nat_lit 16) [] [] (lkMove g10) p75 
(dLook (nat_lit 17) [] [] (lkBin .add g74 g75) p76 
(dLook (nat_lit 18) [] [] (lkIxSl (nat_lit 32) g73 g76) p77 
(dLook (nat_lit 19) [] [] (lkLoadN (nat_lit 32) g77) p78 
(dLook (nat_lit 20) [] [] (lkIxSl (nat_lit 32) g59 g62) p79 
(dTurn (nat_lit 21) [] [] true (xTurn (tnStore (nat_lit 32) g79 g72)) noDst 
(dLook (nat_lit 22) [] [(nat_lit 21)] (lkIxSl (nat_lit 32) g63 g66) p80 
(dTurn (nat_lit 23) [] [(nat_lit 21)] true (xTurn (tnStore (nat_lit 32) g80 g78)) noDst (dEnd [(nat_lit 59), (nat_lit 60), (nat_lit 61), (nat_lit 62), (nat_lit 63), (nat_lit 64), (nat_lit 65), (nat_lit 66), (nat_lit 67), (nat_lit 68), (nat_lit 69), (nat_lit 70), (nat_lit 71), (nat_lit 72), (nat_lit 73), (nat_lit 74), (nat_lit 75), (nat_lit 76), (nat_lit 77), (nat_lit 78), (nat_lit 79), (nat_lit 80)])))))))))))))))))))))))))) (oSet (xMove g11) p81 
(oSet (xMove g81) p10 
oEnd)))))))))))⟩
def q302 : OpdF := kC (.int .u64 (.ofNat (nat_lit 0)))
noncomputable def k257 : KFun := ⟨[rTmp (nat_lit 2) g2], (kSeq (oSet (xMove q302) p2 
oEnd) (kSeq (oSet (xMove g0) p3 
(oSet (xLook (lkIntTo .u64 g3)) p4 
(oSet (xCall q80 [g4]) p5 
(oSet (xLook (lkBin .shl q199 g5)) p6 
(oSet (xMove g6) p2 
oEnd))))) kRet))⟩
def q303 : OpdF := kC (.int .u64 (.ofNat (nat_lit 13)))
def q304 : OpdF := kC (.int .u64 (.ofNat (nat_lit 17)))
noncomputable def k258 : KFun := ⟨[rTmp (nat_lit 2) g2], (kSeq (oSet (xMove q302) p2 
oEnd) (kSeq (kDraw 
(dLook (nat_lit 0) [] [] (lkMove g0) p3 
(dTurn (nat_lit 1) [] [] false (xNil g3) p4 
(dLook (nat_lit 2) [] [] (lkLoad1 g4) p5 
(dLook (nat_lit 3) [] [] (lkMove g0) p6 
(dTurn (nat_lit 4) [] [] false (xNil g6) p7 
(dLook (nat_lit 5) [] [] (lkLoad1 g7) p8 
(dLook (nat_lit 6) [] [] (lkBin .shl g8 q303) p9 
(dLook (nat_lit 7) [] [] (lkBin .xor g5 g9) p10 
(dTurn (nat_lit 8) [] [] false (xNil g3) p11 
(dTurn (nat_lit 9) [] [] true (xTurn (tnStore (nat_lit 1) g11 g10)) noDst (dEnd [(nat_lit 3), (nat_lit 4), (nat_lit 5), (nat_lit 6), (nat_lit 7), (nat_lit 8), (nat_lit 9), (nat_lit 10), (nat_lit 11)])))))))))))) (kSeq (kDraw 
(dLook (nat_lit 0) [] [] (lkMove g0) p12 
(dTurn (nat_lit 1) [] [] false (xNil g12) p13 
(dLook (nat_lit 2) [] [] (lkLoad1 g13) p14 
(dLook (nat_lit 3) [] [] (lkMove g0) p15 
(dTurn (nat_lit 4) [] [] false (xNil g15) p16 
(dLook (nat_lit 5) [] [] (lkLoad1 g16) p17 
(dLook (nat_lit 6) [] [] (lkBin .shr g17 q169) p18 
(dLook (nat_lit 7) [] [] (lkBin .xor g14 g18) p19 
(dTurn (nat_lit 8) [] [] false (xNil g12) p20 
(dTurn (nat_lit 9) [] [] true (xTurn (tnStore (nat_lit 1) g20 g19)) noDst (dEnd [(nat_lit 12), (nat_lit 13), (nat_lit 14), (nat_lit 15), (nat_lit 16), (nat_lit 17), (nat_lit 18), (nat_lit 19), (nat_lit 20)])))))))))))) (kSeq (kDraw 
(dLook (nat_lit 0) [] [] (lkMove g0) p21 
(dTurn (nat_lit 1) [] [] false (xNil g21) p22 
(dLook (nat_lit 2) [] [] (lkLoad1 g22) p23 
(dLook (nat_lit 3) [] [] (lkMove g0) p24 
(dTurn (nat_lit 4) [] [] false (xNil g24) p25 
(dLook (nat_lit 5) [] [] (lkLoad1 g25) p26 
(dLook (nat_lit 6) [] [] (lkBin .shl g26 q304) p27 
(dLook (nat_lit 7) [] [] (lkBin .xor g23 g27) p28 
(dTurn (nat_lit 8) [] [] false (xNil g21) p29 
(dTurn (nat_lit 9) [] [] true (xTurn (tnStore (nat_lit 1) g29 g28)) noDst (dEnd [(nat_lit 21), (nat_lit 22), (nat_lit 23), (nat_lit 24), (nat_lit 25), (nat_lit 26), (nat_lit 27), (nat_lit 28), (nat_lit 29)])))))))))))) (kSeq (oSet (xMove g0) p30 
(oSet (xNil g30) p31 
(oSet (xLook (lkLoad1 g31)) p32 
(oSet (xMove g32) p2 
oEnd)))) kRet)))))⟩
noncomputable def k259 : KFun := ⟨[rTmp (nat_lit 8) g8], (kSeq (oSet (xMove q6) p8 
oEnd) (kSeq (oSet (xMove g0) p9 
(oSet (xMove g1) p10 
(oSet (xLook (lkBin .sub g10 q14)) p11 
(oSet (xMove g1) p12 
(oSet (xMove g1) p13 
(oSet (xLook (lkBin .add g13 q14)) p14 
(oSet (xMove g2) p15 
(oSet (xMove g3) p16 
(oSet (xCall q202 [g9, g11, g12, g14, g15, g16]) p17 
(oSet (xMove g17) p8 
oEnd)))))))))) kRet))⟩
def q305 : OpdF := kC (.func (.func (nat_lit 291)) ⟨[]⟩ ⟨[]⟩)
noncomputable def k260 : KFun := ⟨[rTmp (nat_lit 12) g12], (kSeq (oSet (xMove q6) p12 
oEnd) (kSeq (oSet (xMove g0) p14 
(oSet (xMove g1) p15 
(oSet (xMove g2) p16 
(oSet (xMove g4) p17 
(oSet (xMove g5) p18 
(oSet (xCall q305 [g14, g15, g16, g17, g18]) p19 
(oSet (xMove g19) p13 
(oSet (xLook (lkExtract (nat_lit 0) g13)) p20 
(oSet (xLook (lkExtract (nat_lit 1) g13)) p21 
(oSet (xMove g20) p1 
(oSet (xMove g21) p2 
oEnd))))))))))) (kSeq (oSet (xMove g0) p23 
(oSet (xMove g2) p24 
(oSet (xMove g3) p25 
(oSet (xMove g4) p26 
(oSet (xMove g5) p27 
(oSet (xCall q305 [g23, g24, g25, g26, g27]) p28 
(oSet (xMove g28) p22 
(oSet (xLook (lkExtract (nat_lit 0) g22)) p29 
(oSet (xLook (lkExtract (nat_lit 1) g22)) p30 
(oSet (xMove g29) p2 
(oSet (xMove g30) p3 
oEnd))))))))))) (kSeq (oSet (xMove g0) p32 
(oSet (xMove g1) p33 
(oSet (xMove g2) p34 
(oSet (xMove g4) p35 
(oSet (xMove g5) p36 
(oSet (xCall q305 [g32, g33, g34, g35, g36]) p37 
(oSet (xMove g37) p31 
(oSet (xLook (lkExtract (nat_lit 0) g31)) p38 
(oSet (xLook (lkExtract (nat_lit 1) g31)) p39 
(oSet (xMove g38) p1 
(oSet (xMove g39) p2 
oEnd))))))))))) (kSeq (oSet (xMove g2) p40 
(oSet (xMove g40) p12 
oEnd)) kRet)))))⟩
def q306 : OpdF := kC (.int .u64 (.ofNat (nat_lit 31)))
noncomputable def k261 : KFun := ⟨[rTmp (nat_lit 4) g4], (kSeq (oSet (xMove q211) p4 
oEnd) (kSeq (oSet (xMove g1) p6 
(oSet (xLook (lkIntTo .u64 g6)) p7 
(oSet (xLook (lkBin .and g7 q306)) p8 
(oSet (xMove g8) p5 
oEnd)))) (kSeq (oSet (xMove g0) p9 
(oSet (xMove g5) p10 
(oSet (xLook (lkBin .shl g9 g10)) p11 
(oSet (xMove g0) p12 
(oSet (xMove g5) p13 
(oSet (xLook (lkBin .sub q207 g13)) p14 
(oSet (xLook (lkBin .shr g12 g14)) p15 
(oSet (xLook (lkBin .or g11 g15)) p16 
(oSet (xMove g16) p4 
oEnd))))))))) kRet)))⟩
noncomputable def k262 : KFun := ⟨[rTmp (nat_lit 6) g6], (kSeq (oSet (xMove q12) p6 
oEnd) (kSeq (oSet (xMove g0) p8 
(oSet (xMove g1) p9 
(oSet (xMove g2) p10 
(oSet (xMove g0) p11 
(oSet (xLook (lkLen .sl g11)) p12 
(oSet (xLook (lkSliceSl (nat_lit 2) g8 (some g9) (some g10) (some g12))) p13 
oEnd)))))) (kSeq (kSeq (oSet (xMove g1) p14 
(oSet (xMove g2) p15 
(oSet (xLook (lkEq false .int g14 g15)) p16 
oEnd))) (kCond g16 (kSeq (oSet (xMove g0) p17 
(oSet (xMove g17) p6 
oEnd)) kRet) kSkip)) (kSeq (oSet (xMove g0) p18 
(oSet (xLook (lkLen .sl g18)) p19 
(oSet (xMove g19) p7 
oEnd))) (kSeq (kDraw 
(dLook (nat_lit 0) [] [] (lkMove g0) p20 
(dLook (nat_lit 1) [] [] (lkMove g1) p21 
(dLook (nat_lit 2) [] [] (lkSliceSl (nat_lit 2) g20 none (some g21) none) p22 
(dLook (nat_lit 3) [] [] (lkMove g0) p23 
(dLook (nat_lit 4) [] [] (lkMove g2) p24 
(dLook (nat_lit 5) [] [] (lkSliceSl (nat_lit 2) g23 (some g24) none none) p25 
(dTurn (nat_lit 6) [] [] true (xTurn (tnAppend (nat_lit 2) g22 g25)) p26 
(dLook (nat_lit 7) [] [(nat_lit 6)] (lkMove g26) p0 (dEnd [(nat_lit 20), (nat_lit 21), (nat_lit 22), (nat_lit 23), (nat_lit 24), (nat_lit 25), (nat_lit 26), (nat_lit 0)])))))))))) (kSeq (oSet (xMove g0) p27 
(oSet (xMove g0) p28 
(oSet (xLook (lkLen .sl g28)) p29 
(oSet (xMove g7) p30 
(oSet (xLook (lkSliceSl (nat_lit 2) g27 (some g29) (some g30) none)) p31 
(oDo (xTurn (tnClear q40 g31)) 
oEnd)))))) (kSeq (oSet (xMove g0) p32 
(oSet (xMove g32) p6 
oEnd)) kRet)))))))⟩
noncomputable def k263 : KFun := ⟨[rTmp (nat_lit 2) g2], (kSeq (oSet (xMove q12) p2 
oEnd) (kSeq (kSeq (oSet (xMove g0) p3 
(oSet (xLook (lkEq false .slice g3 q12)) p4 
oEnd)) (kCond g4 (kSeq (oSet (xMove q12) p2 
oEnd) kRet) kSkip)) (kSeq (oSet (xTurn (tnBuildSlice [] [] (nat_lit 0))) p5 
(oSet (xMove g0) p6 
(oSet (xTurn (tnAppend (nat_lit 2) g5 g6)) p7 
(oSet (xMove g7) p2 
oEnd)))) kRet)))⟩
def q307 : OpdF := kC (.func (.func (nat_lit 292)) ⟨[]⟩ ⟨[]⟩)
def q308 : OpdF := kC (.func (.func (nat_lit 293)) ⟨[]⟩ ⟨[]⟩)
noncomputable def k264 : KFun := ⟨[rTmp (nat_lit 6) g6], (kSeq (oSet (xMove q12) p6 
oEnd) (kSeq (oSet (xMove g0) p10 
(oSet (xMove g1) p11 
(oSet (xLook (lkSliceSl (nat_lit 2) g10 (some g11) none none)) p12 
oEnd))) (kSeq (oSet (xMove g2) p13 
(oSet (xLook (lkLen .sl g13)) p14 
(oSet (xMove g14) p7 
oEnd))) (kSeq (kSeq (oSet (xMove g7) p15 
(oSet (xLook (lkEq false .int g15 q6)) p16 
oEnd)) (kCond g16 (kSeq (oSet (xMove g0) p17 
(oSet (xMove g17) p6 
oEnd)) kRet) kSkip)) (kSeq (oSet (xMove g0) p18 
(oSet (xLook (lkLen .sl g18)) p19 
(oSet (xMove g19) p8 
oEnd))) (kSeq (kSeq (oSet (xMove g1) p20 
(oSet (xMove g8) p21 
(oSet (xLook (lkEq false .int g20 g21)) p22 
oEnd))) (kCond g22 (kSeq (oSet (xMove g0) p23 
(oSet (xMove g2) p24 
(oSet (xTurn (tnAppend (nat_lit 2) g23 g24)) p25 
(oSet (xMove g25) p6 
oEnd)))) kRet) kSkip)) (kSeq (kSeq (oSet (xMove g8) p26 
(oSet (xMove g7) p27 
(oSet (xLook (lkBin .add g26 g27)) p28 
(oSet (xMove g0) p29 
(oSet (xLook (lkCap g29)) p30 
(oSet (xLook (lkBin .gtr g28 g30)) p31 
oEnd)))))) (kCond g31 (kSeq (oSet (xMove g0) p32 
(oSet (xMove g1) p33 
(oSet (xLook (lkSliceSl (nat_lit 2) g32 none (some g33) none)) p34 
(oSet (xMove g8) p35 
(oSet (xMove g7) p36 
(oSet (xLook (lkBin .add g35 g36)) p37 
(oSet (xMove g1) p38 
(oSet (xLook (lkBin .sub g37 g38)) p39 
(oSet (xTurn (tnAppendZ q40 g34 g39)) p40 
(oSet (xMove g40) p9 
oEnd)))))))))) (kSeq (oSet (xMove g9) p41 
(oSet (xMove g1) p42 
(oSet (xLook (lkSliceSl (nat_lit 2) g41 (some g42) none none)) p43 
(oSet (xMove g2) p44 
(oSet (xTurn (tnCopy (nat_lit 2) g43 g44)) p45 
oEnd))))) (kSeq (kDraw 
(dLook (nat_lit 0) [] [] (lkMove g9) p46 
(dLook (nat_lit 1) [] [] (lkMove g1) p47 
(dLook (nat_lit 2) [] [] (lkMove g7) p48 
(dLook (nat_lit 3) [] [] (lkBin .add g47 g48) p49 
(dLook (nat_lit 4) [] [] (lkSliceSl (nat_lit 2) g46 (some g49) none none) p50 
(dLook (nat_lit 5) [] [] (lkMove g0) p51 
(dLook (nat_lit 6) [] [] (lkMove g1) p52 
(dLook (nat_lit 7) [] [] (lkSliceSl (nat_lit 2) g51 (some g52) none none) p53 
(dTurn (nat_lit 8) [] [] true (xTurn (tnCopy (nat_lit 2) g50 g53)) p54 (dEnd [(nat_lit 46), (nat_lit 47), (nat_lit 48), (nat_lit 49), (nat_lit 50), (nat_lit 51), (nat_lit 52), (nat_lit 53), (nat_lit 54)]))))))))))) (kSeq (oSet (xMove g9) p55 
(oSet (xMove g55) p6 
oEnd)) kRet)))) kSkip)) (kSeq (oSet (xMove g0) p56 
(oSet (xMove g8) p57 
(oSet (xMove g7) p58 
(oSet (xLook (lkBin .add g57 g58)) p59 
(oSet (xLook (lkSliceSl (nat_lit 2) g56 none (some g59) none)) p60 
(oSet (xMove g60) p0 
oEnd)))))) (kSeq (kSeq (oSet (xMove g2) p61 
(oSet (xMove g0) p62 
(oSet (xMove g1) p63 
(oSet (xMove g7) p64 
(oSet (xLook (lkBin .add g63 g64)) p65 
(oSet (xLook (lkSliceSl (nat_lit 2) g62 (some g65) none none)) p66 
(oSet (xCall q307 [g61, g66]) p67 
(oSet (xLook (lkUn .not g67)) p68 
oEnd)))))))) (kCond g68 (kSeq (kDraw 
(dLook (nat_lit 0) [] [] (lkMove g0) p69 
(dLook (nat_lit 1) [] [] (lkMove g1) p70 
(dLook (nat_lit 2) [] [] (lkMove g7) p71 
(dLook (nat_lit 3) [] [] (lkBin .add g70 g71) p72 
(dLook (nat_lit 4) [] [] (lkSliceSl (nat_lit 2) g69 (some g72) none none) p73 
(dLook (nat_lit 5) [] [] (lkMove g0) p74 
(dLook (nat_lit 6) [] [] (lkMove g1) p75 
(dLook (nat_lit 7) [] [] (lkSliceSl (nat_lit 2) g74 (some g75) none none) p76 
(dTurn (nat_lit 8) [] [] true (xTurn (tnCopy (nat_lit 2) g73 g76)) p77 (dEnd [(nat_lit 69), (nat_lit 70), (nat_lit 71), (nat_lit 72), (nat_lit 73), (nat_lit 74), (nat_lit 75), (nat_lit 76), (nat_lit 77)]))))))))))) (kSeq (oSet (xMove g0) p78 
(oSet (xMove g1) p79 
(oSet (xLook (lkSliceSl (nat_lit 2) g78 (some g79) none none)) p80 
(oSet (xMove g2) p81 
(oSet (xTurn (tnCopy (nat_lit 2) g80 g81)) p82 
oEnd))))) (kSeq (oSet (xMove g0) p83 
(oSet (xMove g83) p6 
oEnd)) kRet))) kSkip)) (kSeq (oSet (xMove g0) p84 
(oSet (xMove g8) p85 
(oSet (xLook (lkSliceSl (nat_lit 2) g84 (some g85) none none)) p86 
(oSet (xMove g2) p87 
(oSet (xTurn (tnCopy (nat_lit 2) g86 g87)) p88 
oEnd))))) (kSeq (oSet (xMove g0) p89 
(oSet (xMove g1) p90 
(oSet (xLook (lkSliceSl (nat_lit 2) g89 (some g90) none none)) p91 
(oSet (xMove g7) p92 
(oSet (xCall q308 [g91, g92]) p93 
oEnd))))) (kSeq (oSet (xMove g0) p94 
(oSet (xMove g94) p6 
oEnd)) kRet))))))))))))⟩
noncomputable def k265 : KFun := ⟨[rTmp (nat_lit 4) g4], (kSeq (oSet (xMove q6) p4 
oEnd) (kSeq (kBlock (nat_lit 0) (kSeq (oSet (xMove g0) p6 
(oSet (xLook (lkBin .lss g6 q14)) p7 
(oSet (xMove g7) p8 
(oSetIf (wantF g8) (xMove g0) p9 
(oSetIf (wantF g8) (xLook (lkBin .gtr g9 q113)) p10 
(oSet (xLook (lkPick g8 q13 g10)) p11 
(oSet (xMove g11) p5 
oEnd))))))) (kCond g5 (kSeq (oSet (xMove q7) p4 
oEnd) kRet) (kSeq (oSet (xMove g1) p13 
(oSet (xLook (lkLen .sl g13)) p14 
(oSet (xLook (lkBin .gtr g14 q68)) p15 
(oSet (xMove g15) p12 
oEnd)))) (kCond g12 (kSeq (oSet (xMove q69) p4 
oEnd) kRet) kSkip))))) (kSeq (oSet (xMove q6) p4 
oEnd) kRet)))⟩
def q309 : OpdF := kC (.string ⟨⟨[99, 97, 110, 110, 111, 116, 32, 98, 101, 32, 110, 101, 103, 97, 116, 105, 118, 101]⟩⟩)
noncomputable def k266 : KFun := ⟨[rTmp (nat_lit 4) g4], (kSeq (oSet (xMove q12) p4 
oEnd) (kSeq (kSeq (oSet (xMove g1) p5 
(oSet (xLook (lkBin .lss g5 q6)) p6 
oEnd)) (kCond g6 (oSet (xLook (lkMkIface (nat_lit 9) q309)) p7 
(oDo (xPanic g7) 
oEnd)) kSkip)) (kSeq (kSeq (oSet (xMove g1) p8 
(oSet (xMove g0) p9 
(oSet (xLook (lkCap g9)) p10 
(oSet (xMove g0) p11 
(oSet (xLook (lkLen .sl g11)) p12 
(oSet (xLook (lkBin .sub g10 g12)) p13 
(oSet (xLook (lkBin .sub g8 g13)) p14 
(oSet (xMove g14) p1 
oEnd)))))))) (kSeq (oSet (xMove g1) p15 
(oSet (xLook (lkBin .gtr g15 q6)) p16 
oEnd)) (kCond g16 (oSet (xMove g0) p17 
(oSet (xMove g0) p18 
(oSet (xLook (lkCap g18)) p19 
(oSet (xLook (lkSliceSl (nat_lit 1) g17 none (some g19) none)) p20 
(oSet (xMove g1) p21 
(oSet (xTurn (tnAppendZ q116 g20 g21)) p22 
(oSet (xMove g0) p23 
(oSet (xLook (lkLen .sl g23)) p24 
(oSet (xLook (lkSliceSl (nat_lit 1) g22 none (some g24) none)) p25 
(oSet (xMove g25) p0 
oEnd)))))))))) kSkip))) (kSeq (oSet (xMove g0) p26 
(oSet (xMove g26) p4 
oEnd)) kRet))))⟩
noncomputable def k267 : KFun := ⟨[], (kSeq (oSet (xMove q6) p4 
oEnd) (kBlock (nat_lit 0) (kLoop (kSeq (kSeq (oSet (xMove g4) p6 
(oSet (xLook (lkLoad1 g1)) p7 
(oSet (xLook (lkLen .sl g7)) p8 
(oSet (xLook (lkBin .lss g6 g8)) p9 
oEnd)))) (kCond g9 kSkip (kExit (nat_lit 0)))) (kSeq (kBlock (nat_lit 1) (kSeq (kDraw 
(dLook (nat_lit 0) [] [] (lkLoad1 g2) p13 
(dLook (nat_lit 1) [] [] (lkLoad1 g1) p14 
(dLook (nat_lit 2) [] [] (lkMove g4) p15 
(dLook (nat_lit 3) [] [] (lkSliceSl (nat_lit 1) g14 (some g15) none none) p16 
(dLook (nat_lit 4) [] [] (lkLen .sl g16) p17 
(dLook (nat_lit 5) [] [] (lkMin g13 [g17]) p18 
(dLook (nat_lit 6) [] [] (lkMove g18) p5 (dEnd [(nat_lit 13), (nat_lit 14), (nat_lit 15), (nat_lit 16), (nat_lit 17), (nat_lit 18), (nat_lit 5)]))))))))) (kSeq (oSet (xMove g0) p19 
(oSet (xLook (lkLoad1 g1)) p20 
(oSet (xMove g4) p21 
(oSet (xMove g4) p22 
(oSet (xMove g5) p23 
(oSet (xLook (lkBin .add g22 g23)) p24 
(oSet (xMove g4) p25 
(oSet (xMove g5) p26 
(oSet (xLook (lkBin .add g25 g26)) p27 
(oSet (xLook (lkSliceSl (nat_lit 1) g20 (some g21) (some g24) (some g27))) p28 
(oSet (xCall g19 [g28]) p29 
(oSet (xLook (lkUn .not g29)) p30 
oEnd)))))))))))) (kCond g30 kRet kSkip)))) (oSet (xMove g4) p10 
(oSet (xLook (lkLoad1 g2)) p11 
(oSet (xLook (lkBin .add g10 g11)) p12 
(oSet (xMove g12) p4 
oEnd)))))))))⟩
noncomputable def k268 : KFun := ⟨[], (kDraw 
(dLook (nat_lit 0) [] [] (lkLoad1 g0) p3 
(dLook (nat_lit 1) [] [] (lkLoad1 g0) p4 
(dTurn (nat_lit 2) [] [] false (xNil g4) p5 
(dLook (nat_lit 3) [] [] (lkFieldAddr (nat_lit 6) g5) p6 
(dLook (nat_lit 4) [] [] (lkLoad1 g6) p7 
(dLook (nat_lit 5) [] [] (lkLoad1 g1) p8 
(dLook (nat_lit 6) [] [] (lkLoad1 g2) p9 
(dLook (nat_lit 7) [] [] (lkToArr (nat_lit 64) g9) p10 
(dLook (nat_lit 8) [] [] (lkLoadN (nat_lit 64) g10) p11 
(dLook (nat_lit 9) [] [] (lkBuild q109 [((nat_lit 0), (nat_lit 1), g8), ((nat_lit 1), (nat_lit 64), g11)]) p12 
(dTurn (nat_lit 10) [] [] false (xTurn (tnBuildSlice q109 [((nat_lit 0), (nat_lit 65), g12)] (nat_lit 1))) p13 
(dTurn (nat_lit 11) [(nat_lit 0)] [] true (xTurn (tnAppend (nat_lit 65) g7 g13)) p14 
(dTurn (nat_lit 12) [] [(nat_lit 11)] false (xNil g3) p15 
(dLook (nat_lit 13) [] [(nat_lit 11)] (lkFieldAddr (nat_lit 6) g15) p16 
(dTurn (nat_lit 14) [] [(nat_lit 11)] true (xTurn (tnStore (nat_lit 1) g16 g14)) noDst (dEnd [(nat_lit 3), (nat_lit 4), (nat_lit 5), (nat_lit 6), (nat_lit 7), (nat_lit 8), (nat_lit 9), (nat_lit 10), (nat_lit 11), (nat_lit 12), (nat_lit 13), (nat_lit 14), (nat_lit 15), (nat_lit 16)])))))))))))))))))⟩
def q310 : OpdF := kC (.int .i64 (.ofNat (nat_lit 1099511627775)))
def q311 : OpdF := kC (.int .i64 (.ofNat (nat_lit 1048576)))
noncomputable def k269 : KFun := ⟨[rTmp (nat_lit 2) g2], (kSeq (oSet (xTurn (tnBox g0)) p1 
(oSet (xMove q6) p2 
oEnd)) (kSeq (kSeq (oSet (xLook (lkFieldAddr (nat_lit 0) g1)) p3 
(oSet (xLook (lkLoad1 g3)) p4 
(oSet (xLook (lkBin .lss g4 q14)) p5 
(oSet (xMove g5) p6 
(oSetIf (wantF g6) (xLook (lkFieldAddr (nat_lit 0) g1)) p7 
(oSetIf (wantF g6) (xLook (lkLoad1 g7)) p8 
(oSetIf (wantF g6) (xLook (lkBin .gtr g8 q310)) p9 
(oSet (xLook (lkPick g6 q13 g9)) p10 
(oSet (xMove g10) p11 
(oSetIf (wantF g11) (xLook (lkFieldAddr (nat_lit 33) g1)) p12 
(oSetIf (wantF g11) (xLook (lkLoad1 g12)) p13 
(oSetIf (wantF g11) (xLook (lkBin .lss g13 q6)) p14 
(oSet (xLook (lkPick g11 q13 g14)) p15 
(oSet (xMove g15) p16 
(oSetIf (wantF g16) (xLook (lkFieldAddr (nat_lit 33) g1)) p17 
(oSetIf (wantF g16) (xLook (lkLoad1 g17)) p18 
(oSetIf (wantF g16) (xLook (lkBin .geq g18 q68)) p19 
(oSet (xLook (lkPick g16 q13 g19)) p20 
(oSet (xMove g20) p21 
(oSetIf (wantF g21) (xLook (lkFieldAddr (nat_lit 34) g1)) p22 
(oSetIf (wantF g21) (xLook (lkLoad1 g22)) p23 
(oSetIf (wantF g21) (xLook (lkBin .lss g23 q6)) p24 
(oSet (xLook (lkPick g21 q13 g24)) p25 
(oSet (xMove g25) p26 
(oSetIf (wantF g26) (xLook (lkFieldAddr (nat_lit 34) g1)) p27 
(oSetIf (wantF g26) (xLook (lkLoad1 g27)) p28 
(oSetIf (wantF g26) (xLook (lkBin .gtr g28 q311)) p29 
(oSet (xLook (lkPick g26 q13 g29)) p30 
oEnd)))))))))))))))))))))))))))) (kCond g30 (kSeq (oSet (xMove q7) p2 
oEnd) kRet) kSkip)) (kSeq (oSet (xMove q6) p2 
oEnd) kRet)))⟩
noncomputable def k270 : KFun := ⟨[rTmp (nat_lit 4) g4], (kSeq (oSet (xMove q12) p4 
oEnd) (kSeq (oSet (xMove q12) p5 
oEnd) (kSeq (kSeq (oSet (xMove g1) p7 
(oSet (xLook (lkBin .sub g7 q14)) p8 
(oSet (xMove g8) p6 
oEnd))) (kBlock (nat_lit 0) (kLoop (kSeq (kSeq (oSet (xMove g6) p9 
(oSet (xLook (lkBin .geq g9 q6)) p10 
oEnd)) (kCond g10 kSkip (kExit (nat_lit 0)))) (kSeq (kBlock (nat_lit 1) (oSet (xMove g5) p13 
(oSet (xMove g0) p14 
(oSet (xMove g6) p15 
(oSet (xLook (lkBin .mul q44 g15)) p16 
(oSet (xLook (lkBin .shr g14 g16)) p17 
(oSet (xLook (lkIntTo .u8 g17)) p18 
(oSet (xTurn (tnBuildSlice q116 [((nat_lit 0), (nat_lit 1), g18)] (nat_lit 1))) p19 
(oSet (xTurn (tnAppend (nat_lit 1) g13 g19)) p20 
(oSet (xMove g20) p5 
oEnd)))))))))) (oSet (xMove g6) p11 
(oSet (xLook (lkBin .sub g11 q14)) p12 
(oSet (xMove g12) p6 
oEnd)))))))) (kSeq (oSet (xMove g5) p21 
(oSet (xMove g21) p4 
oEnd)) kRet))))⟩
noncomputable def k271 : KFun := ⟨[rTmp (nat_lit 4) g4], (kSeq (oSet (xMove q6) p4 
oEnd) (kSeq (oSet (xMove q6) p5 
oEnd) (kSeq (kSeq (oSet (xMove g0) p8 
(oSet (xNil g8) p9 
(oSet (xLook (lkFieldAddr (nat_lit 0) g9)) p10 
(oSet (xLook (lkLoad1 g10)) p11 
(oSet (xMove g1) p12 
(oSet (xLook (lkSliceSl (nat_lit 1) g11 none (some g12) none)) p13 
(oSet (xLook (lkLen .sl g13)) p14 
(oSet (xMove q6) p15 
oEnd)))))))) (kBlock (nat_lit 0) (kLoop (kSeq (oSet (xLook (lkBin .lss g15 g14)) p16 
oEnd) (kSeq (kCond g16 kSkip (kExit (nat_lit 0))) (kSeq (kBlock (nat_lit 1) (kSeq (oSet (xLook (lkIxSl (nat_lit 1) g13 g15)) p17 
(oSet (xLook (lkLoad1 g17)) p18 
(oSet (xMove g18) p7 
oEnd))) (oSet (xMove g5) p19 
(oSet (xLook (lkBin .shl g19 q91)) p20 
(oSet (xMove g7) p21 
(oSet (xLook (lkIntTo .i64 g21)) p22 
(oSet (xLook (lkBin .or g20 g22)) p23 
(oSet (xMove g23) p5 
oEnd)))))))) (oSet (xLook (lkBin .add g15 q14)) p24 
(oSet (xMove g24) p15 
oEnd)))))))) (kSeq (oSet (xMove g0) p25 
(oSet (xMove g0) p26 
(oSet (xNil g26) p27 
(oSet (xLook (lkFieldAddr (nat_lit 0) g27)) p28 
(oSet (xLook (lkLoad1 g28)) p29 
(oSet (xMove g1) p30 
(oSet (xLook (lkSliceSl (nat_lit 1) g29 (some g30) none none)) p31 
(oSet (xNil g25) p32 
(oSet (xLook (lkFieldAddr (nat_lit 0) g32)) p33 
(oDo (xTurn (tnStore (nat_lit 1) g33 g31)) 
oEnd)))))))))) (kSeq (oSet (xMove g5) p34 
(oSet (xMove g34) p4 
oEnd)) kRet)))))⟩
def q312 : OpdF := kC .nilIface
noncomputable def k272 : KFun := ⟨[], (kSeq (oSet xRecover p6 
oEnd) (kBlock (nat_lit 0) (kSeq (oSet (xLook (lkEq false .ifaceNil g6 q312)) p8 
oEnd) (kCond g8 (kSeq (oSet (xMove g6) p3 
oEnd) (oDo (xTurn (tnStore (nat_lit 1) g0 q13)) 
oEnd)) (kSeq (oSet (xLook (lkAssertT (nat_lit 402) (.agg ⟨[(.int .i64 (.ofNat (nat_lit 0))), (.int .i64 (.ofNat (nat_lit 0)))]⟩) true g6)) p9 
(oSet (xLook (lkExtract (nat_lit 1) g9)) p10 
(oSet (xLook (lkExtract (nat_lit 0) g9)) p11 
oEnd))) (kCond g10 (kSeq (oSet (xTurn (tnAlloc q40)) p4 
(oDo (xTurn (tnStore (nat_lit 2) g4 g11)) 
oEnd)) (kDraw 
(dLook (nat_lit 0) [] [] (lkLoad1 g2) p12 
(dLook (nat_lit 1) [] [] (lkLoad1 g2) p13 
(dLook (nat_lit 2) [] [] (lkLoad1 g1) p14 
(dLook (nat_lit 3) [] [] (lkFieldAddr (nat_lit 0) g4) p15 
(dLook (nat_lit 4) [] [] (lkLoadN (nat_lit 2) g15) p16 
(dTurn (nat_lit 5) [] [] false (xNil g12) p17 
(dLook (nat_lit 6) [] [] (lkFieldAddr (nat_lit 4) g17) p18 
(dTurn (nat_lit 7) [(nat_lit 4)] [] true (xTurn (tnStore (nat_lit 1) g18 g14)) noDst 
(dTurn (nat_lit 8) [] [(nat_lit 7)] false (xNil g13) p19 
(dLook (nat_lit 9) [] [(nat_lit 7)] (lkFieldAddr (nat_lit 0) g19) p20 
(dLook (nat_lit 10) [] [(nat_lit 7)] (lkFieldAddr (nat_lit 2) g20) p21 
(dTurn (nat_lit 11) [] [(nat_lit 7)] true (xTurn (tnStore (nat_lit 2) g21 g16)) noDst (dEnd [(nat_lit 12), (nat_lit 13), (nat_lit 14), (nat_lit 15), (nat_lit 16), (nat_lit 17), (nat_lit 18), (nat_lit 19), (nat_lit 20), (nat_lit 21)]))))))))))))))) (kSeq (oSet (xMove g6) p5 
oEnd) (oSet (xMove g5) p7 
(oDo (xPanic g7) 
oEnd)))))))))⟩
noncomputable def k273 : KFun := ⟨[], (oSet (xMove g0) p3 
(oSet (xLook (lkLoad1 g1)) p4 
(oSet (xLook (lkBuild q40 [((nat_lit 0), (nat_lit 1), g3), ((nat_lit 1), (nat_lit 1), g4)])) p5 
(oSet (xLook (lkBuild q40 [((nat_lit 0), (nat_lit 2), g5)])) p6 
(oSet (xLook (lkMkIface (nat_lit 402) g6)) p7 
(oDo (xPanic g7) 
oEnd))))))⟩
def q313 : OpdF := kC (.func (.func (nat_lit 294)) ⟨[]⟩ ⟨[]⟩)
def q314 : OpdF := kC (.func (.func (nat_lit 295)) ⟨[]⟩ ⟨[]⟩)
def q315 : OpdF := kC (.func (.func (nat_lit 296)) ⟨[]⟩ ⟨[]⟩)
def q316 : OpdF := kC (.func (.func (nat_lit 297)) ⟨[]⟩ ⟨[]⟩)
def q317 : OpdF := kC (.func (.func (nat_lit 298)) ⟨[]⟩ ⟨[]⟩)
def q318 : OpdF := kC (.func (.func (nat_lit 299)) ⟨[]⟩ ⟨[]⟩)
noncomputable def k274d0 : KD := 
(dLook (nat_lit 16) [] [(nat_lit 13)] (lkPick g83 g96 q0) p97 (dEnd [(nat_lit 81), (nat_lit 82), (nat_lit 83), (nat_lit 84), (nat_lit 85), (nat_lit 86), (nat_lit 87), (nat_lit 88), (nat_lit 89), (nat_lit 90), (nat_lit 91), (nat_lit 92), (nat_lit 93), (nat_lit 94), (nat_lit 95), (nat_lit 96), (nat_lit 97)]))
noncomputable def k274d1 : KD := 
(dIf [(nat_lit 13)] (wantT g83) p96 (dLook (nat_lit 15) [] [(nat_lit 13)] (lkUn .not g95) p96 k274d0) k274d0)
noncomputable def k274d2 : KD := 
(dIf [(nat_lit 13)] (wantT g83) p95 (dLook (nat_lit 14) [] [(nat_lit 13)] (lkBin .lss g94 q6) p95 k274d1) k274d1)
noncomputable def k274d3 : KD := 
(dIf [] (wantT g83) p94 (dTurn (nat_lit 13) [] [] true (xCall g84 [g89, g93]) p94 k274d2) k274d2)
noncomputable def k274d4 : KD := 
(dIf [] (wantT g83) p93 (dLook (nat_lit 12) [] [] (lkLoadN (nat_lit 2) g92) p93 k274d3) k274d3)
noncomputable def k274d5 : KD := 
(dIf [] (wantT g83) p92 (dLook (nat_lit 11) [] [] (lkIxSl (nat_lit 2) g90 g91) p92 k274d4) k274d4)
noncomputable def k274d6 : KD := 
(dIf [] (wantT g83) p91 (dLook (nat_lit 10) [] [] (lkMove g13) p91 k274d5) k274d5)
noncomputable def k274d7 : KD := 
(dIf [] (wantT g83) p90 (dLook (nat_lit 9) [] [] (lkMove g0) p90 k274d6) k274d6)
noncomputable def k274d8 : KD := 
(dIf [] (wantT g83) p89 (dLook (nat_lit 8) [] [] (lkLoadN (nat_lit 2) g88) p89 k274d7) k274d7)
noncomputable def k274d9 : KD := 
(dIf [] (wantT g83) p88 (dLook (nat_lit 7) [] [] (lkIxSl (nat_lit 2) g85 g87) p88 k274d8) k274d8)
noncomputable def k274d10 : KD := 
(dIf [] (wantT g83) p87 (dLook (nat_lit 6) [] [] (lkBin .sub g86 q14) p87 k274d9) k274d9)
noncomputable def k274d11 : KD := 
(dIf [] (wantT g83) p86 (dLook (nat_lit 5) [] [] (lkMove g1) p86 k274d10) k274d10)
noncomputable def k274d12 : KD := 
(dIf [] (wantT g83) p85 (dLook (nat_lit 4) [] [] (lkMove g0) p85 k274d11) k274d11)
def q319 : OpdF := kC (.func (.func (nat_lit 300)) ⟨[]⟩ ⟨[]⟩)
def q320 : OpdF := kC (.func (.func (nat_lit 301)) ⟨[]⟩ ⟨[]⟩)
noncomputable def k274 : KFun := ⟨[], (kSeq (oSet (xMove q13) p10 
oEnd) (kSeq (oSet (xMove q13) p11 
oEnd) (kBlock (nat_lit 0) (kLoop (kBlock (nat_lit 1) (kSeq (oSet (xMove g2) p21 
(oSet (xMove g1) p22 
(oSet (xLook (lkBin .sub g21 g22)) p23 
(oSet (xMove g23) p12 
oEnd)))) (kSeq (kSeq (oSet (xMove g12) p24 
(oSet (xLook (lkBin .leq g24 q131)) p25 
oEnd)) (kCond g25 (kSeq (oSet (xMove g0) p26 
(oSet (xMove g1) p27 
(oSet (xMove g2) p28 
(oSet (xMove g4) p29 
(oSet (xCall q313 [g26, g27, g28, g29]) p30 
oEnd))))) kRet) kSkip)) (kSeq (kSeq (oSet (xMove g3) p31 
(oSet (xLook (lkEq false .int g31 q6)) p32 
oEnd)) (kCond g32 (kSeq (oSet (xMove g0) p33 
(oSet (xMove g1) p34 
(oSet (xMove g2) p35 
(oSet (xMove g4) p36 
(oSet (xCall q314 [g33, g34, g35, g36]) p37 
oEnd))))) kRet) kSkip)) (kSeq (kSeq (oSet (xMove g10) p38 
(oSet (xLook (lkUn .not g38)) p39 
oEnd)) (kCond g39 (kSeq (oSet (xMove g0) p40 
(oSet (xMove g1) p41 
(oSet (xMove g2) p42 
(oSet (xMove g4) p43 
(oSet (xCall q315 [g40, g41, g42, g43]) p44 
oEnd))))) (oSet (xMove g3) p45 
(oSet (xLook (lkBin .sub g45 q14)) p46 
(oSet (xMove g46) p3 
oEnd)))) kSkip)) (kSeq (oSet (xMove g0) p48 
(oSet (xMove g1) p49 
(oSet (xMove g2) p50 
(oSet (xMove g4) p51 
(oSet (xCall q316 [g48, g49, g50, g51]) p52 
(oSet (xMove g52) p47 
(oSet (xLook (lkExtract (nat_lit 0) g47)) p53 
(oSet (xLook (lkExtract (nat_lit 1) g47)) p54 
(oSet (xMove g53) p13 
(oSet (xMove g54) p14 
oEnd)))))))))) (kSeq (kSeq (oSet (xMove g14) p55 
(oSet (xLook (lkEq false .int g55 q7)) p56 
oEnd)) (kCond g56 (kSeq (oSet (xMove g0) p57 
(oSet (xMove g1) p58 
(oSet (xMove g2) p59 
(oSet (xMove g4) p60 
(oSet (xCall q317 [g57, g58, g59, g60]) p61 
oEnd))))) (kSeq (oSet (xMove g2) p62 
(oSet (xLook (lkBin .sub g62 q14)) p63 
(oSet (xMove g13) p64 
(oSet (xMove g1) p65 
(oSet (xLook (lkBin .sub g64 g65)) p66 
(oSet (xLook (lkBin .sub g63 g66)) p67 
(oSet (xMove g67) p13 
oEnd))))))) (oSet (xMove q14) p14 
oEnd))) kSkip)) (kSeq (kSeq (oSet (xMove g10) p68 
(oSet (xMove g68) p69 
(oSetIf (wantT g69) (xMove g11) p70 
(oSet (xLook (lkPick g69 g70 q0)) p71 
(oSet (xMove g71) p72 
(oSetIf (wantT g72) (xMove g14) p73 
(oSetIf (wantT g72) (xLook (lkEq false .int g73 q14)) p74 
(oSet (xLook (lkPick g72 g74 q0)) p75 
oEnd)))))))) (kCond g75 (kSeq (oSet (xMove g0) p76 
(oSet (xMove g1) p77 
(oSet (xMove g2) p78 
(oSet (xMove g4) p79 
(oSet (xCall q318 [g76, g77, g78, g79]) p80 
oEnd))))) (kCond g80 kRet kSkip)) kSkip)) (kSeq (kSeq (kDraw 
(dLook (nat_lit 0) [] [] (lkMove g1) p81 
(dLook (nat_lit 1) [] [] (lkBin .gtr g81 q6) p82 
(dLook (nat_lit 2) [] [] (lkMove g82) p83 
(dIf [] (wantT g83) p84 (dLook (nat_lit 3) [] [] (lkMove g4) p84 k274d12) k274d12))))) (kCond g97 (kSeq (oSet (xMove g0) p98 
(oSet (xMove g1) p99 
(oSet (xMove g2) p100 
(oSet (xMove g13) p101 
(oSet (xMove g4) p102 
(oSet (xCall q319 [g98, g99, g100, g101, g102]) p103 
(oSet (xMove g103) p15 
oEnd))))))) (kSeq (oSet (xMove g15) p104 
(oSet (xMove g104) p1 
oEnd)) (kExit (nat_lit 1)))) kSkip)) (kSeq (oSet (xMove g0) p106 
(oSet (xMove g1) p107 
(oSet (xMove g2) p108 
(oSet (xMove g13) p109 
(oSet (xMove g4) p110 
(oSet (xCall q320 [g106, g107, g108, g109, g110]) p111 
(oSet (xMove g111) p105 
(oSet (xLook (lkExtract (nat_lit 0) g105)) p112 
(oSet (xLook (lkExtract (nat_lit 1) g105)) p113 
(oSet (xMove g112) p16 
(oSet (xMove g113) p17 
oEnd))))))))))) (kSeq (oSet (xMove g17) p114 
(oSet (xMove g114) p11 
oEnd)) (kSeq (oSet (xMove g16) p115 
(oSet (xMove g1) p116 
(oSet (xLook (lkBin .sub g115 g116)) p117 
(oSet (xMove g2) p118 
(oSet (xMove g16) p119 
(oSet (xLook (lkBin .sub g118 g119)) p120 
(oSet (xMove g117) p18 
(oSet (xMove g120) p19 
oEnd)))))))) (kSeq (oSet (xMove g12) p121 
(oSet (xLook (lkBin .quo g121 q44)) p122 
(oSet (xMove g122) p20 
oEnd))) (kSeq (oSet (xMove g18) p123 
(oSet (xMove g19) p124 
(oSet (xLook (lkBin .lss g123 g124)) p125 
oEnd))) (kCond g125 (kSeq (oSet (xMove g18) p126 
(oSet (xMove g20) p127 
(oSet (xLook (lkBin .geq g126 g127)) p128 
(oSet (xMove g128) p10 
oEnd)))) (kSeq (oSet (xMove g0) p129 
(oSet (xMove g1) p130 
(oSet (xMove g16) p131 
(oSet (xMove g3) p132 
(oSet (xMove g4) p133 
(oSet (xCall q296 [g129, g130, g131, g132, g133]) p134 
oEnd)))))) (oSet (xMove g16) p135 
(oSet (xLook (lkBin .add g135 q14)) p136 
(oSet (xMove g136) p1 
oEnd))))) (kSeq (oSet (xMove g19) p137 
(oSet (xMove g20) p138 
(oSet (xLook (lkBin .geq g137 g138)) p139 
(oSet (xMove g139) p10 
oEnd)))) (kSeq (oSet (xMove g0) p140 
(oSet (xMove g16) p141 
(oSet (xLook (lkBin .add g141 q14)) p142 
(oSet (xMove g2) p143 
(oSet (xMove g3) p144 
(oSet (xMove g4) p145 
(oSet (xCall q296 [g140, g142, g143, g144, g145]) p146 
oEnd))))))) (oSet (xMove g16) p147 
(oSet (xMove g147) p2 
oEnd)))))))))))))))))))))))⟩
def q321 : OpdF := kC (.func (.func (nat_lit 302)) ⟨[]⟩ ⟨[]⟩)
noncomputable def k275 : KFun := ⟨[rTmp (nat_lit 4) g4], (kSeq (oSet (xMove q6) p4 
oEnd) (kSeq (oSet (xMove g0) p7 
(oSet (xCall q321 [g7]) p8 
(oSet (xMove g8) p5 
oEnd))) (kSeq (oSet (xMove g1) p9 
(oSet (xCall q321 [g9]) p10 
(oSet (xMove g10) p6 
oEnd))) (kSeq (kSeq (oSet (xMove g5) p11 
oEnd) (kCond g11 (kSeq (kSeq (oSet (xMove g6) p12 
oEnd) (kCond g12 (kSeq (oSet (xMove q6) p4 
oEnd) kRet) kSkip)) (kSeq (oSet (xMove q79) p4 
oEnd) kRet)) kSkip)) (kSeq (kSeq (oSet (xMove g6) p13 
oEnd) (kCond g13 (kSeq (oSet (xMove q14) p4 
oEnd) kRet) kSkip)) (kSeq (kSeq (oSet (xMove g0) p14 
(oSet (xMove g1) p15 
(oSet (xLook (lkBin .lss g14 g15)) p16 
oEnd))) (kCond g16 (kSeq (oSet (xMove q79) p4 
oEnd) kRet) kSkip)) (kSeq (kSeq (oSet (xMove g0) p17 
(oSet (xMove g1) p18 
(oSet (xLook (lkBin .gtr g17 g18)) p19 
oEnd))) (kCond g19 (kSeq (oSet (xMove q14) p4 
oEnd) kRet) kSkip)) (kSeq (oSet (xMove q6) p4 
oEnd) kRet))))))))⟩
noncomputable def k276 : KFun := ⟨[rTmp (nat_lit 6) g6, rTmp (nat_lit 7) g7], (kSeq (oSet (xMove q6) p6 
(oSet (xMove q0) p7 
oEnd)) (kSeq (oSet (xMove g0) p12 
(oSet (xLook (lkLen .sl g12)) p13 
(oSet (xMove g13) p8 
oEnd))) (kSeq (oSet (xMove g8) p14 
(oSet (xMove q6) p9 
(oSet (xMove g14) p10 
oEnd))) (kSeq (kBlock (nat_lit 0) (kLoop (kSeq (kSeq (oSet (xMove g9) p15 
(oSet (xMove g10) p16 
(oSet (xLook (lkBin .lss g15 g16)) p17 
oEnd))) (kCond g17 kSkip (kExit (nat_lit 0)))) (kBlock (nat_lit 1) (kSeq (oSet (xMove g9) p18 
(oSet (xMove g10) p19 
(oSet (xLook (lkBin .add g18 g19)) p20 
(oSet (xLook (lkIntTo .u64 g20)) p21 
(oSet (xLook (lkBin .shr g21 q199)) p22 
(oSet (xLook (lkIntTo .i64 g22)) p23 
(oSet (xMove g23) p11 
oEnd))))))) (kSeq (oSet (xMove g2) p24 
(oSet (xMove g0) p25 
(oSet (xMove g11) p26 
(oSet (xLook (lkIxSl (nat_lit 2) g25 g26)) p27 
(oSet (xLook (lkLoadN (nat_lit 2) g27)) p28 
(oSet (xMove g1) p29 
(oSet (xCall g24 [g28, g29]) p30 
(oSet (xLook (lkBin .lss g30 q6)) p31 
oEnd)))))))) (kCond g31 (oSet (xMove g11) p32 
(oSet (xLook (lkBin .add g32 q14)) p33 
(oSet (xMove g33) p9 
oEnd))) (oSet (xMove g11) p34 
(oSet (xMove g34) p10 
oEnd))))))))) (kSeq (oSet (xMove g9) p35 
(oSet (xMove g9) p36 
(oSet (xMove g8) p37 
(oSet (xLook (lkBin .lss g36 g37)) p38 
(oSet (xMove g38) p39 
(oSetIf (wantT g39) (xMove g2) p40 
(oSetIf (wantT g39) (xMove g0) p41 
(oSetIf (wantT g39) (xMove g9) p42 
(oSetIf (wantT g39) (xLook (lkIxSl (nat_lit 2) g41 g42)) p43 
(oSetIf (wantT g39) (xLook (lkLoadN (nat_lit 2) g43)) p44 
(oSetIf (wantT g39) (xMove g1) p45 
(oSetIf (wantT g39) (xCall g40 [g44, g45]) p46 
(oSetIf (wantT g39) (xLook (lkEq false .int g46 q6)) p47 
(oSet (xLook (lkPick g39 g47 q0)) p48 
(oSet (xMove g35) p6 
(oSet (xMove g48) p7 
oEnd)))))))))))))))) kRet)))))⟩
noncomputable def k277 : KFun := ⟨[rTmp (nat_lit 4) g4], (kSeq (oSet (xTurn (tnBox g0)) p2 
(oSet (xMove q6) p4 
oEnd)) (kSeq (kSeq (oSet (xLook (lkLoadN (nat_lit 2) g2)) p5 
(oSet (xCall q190 [g5]) p6 
(oSet (xMove g1) p7 
(oSet (xLook (lkBin .leq g6 g7)) p8 
oEnd)))) (kCond g8 (kSeq (oSet (xMove q79) p4 
oEnd) kRet) kSkip)) (kSeq (oSet (xMove q14) p4 
oEnd) kRet)))⟩
noncomputable def k291 : KFun := ⟨[rTmp (nat_lit 10) g10, rTmp (nat_lit 11) g11], (kSeq (oSet (xMove q6) p10 
(oSet (xMove q6) p11 
oEnd)) (kSeq (kSeq (kDraw 
(dLook (nat_lit 0) [] [] (lkMove g4) p12 
(dLook (nat_lit 1) [] [] (lkMove g0) p13 
(dLook (nat_lit 2) [] [] (lkMove g2) p14 
(dLook (nat_lit 3) [] [] (lkIxSl (nat_lit 32) g13 g14) p15 
(dLook (nat_lit 4) [] [] (lkLoadN (nat_lit 32) g15) p16 
(dLook (nat_lit 5) [] [] (lkMove g0) p17 
(dLook (nat_lit 6) [] [] (lkMove g1) p18 
(dLook (nat_lit 7) [] [] (lkIxSl (nat_lit 32) g17 g18) p19 
(dLook (nat_lit 8) [] [] (lkLoadN (nat_lit 32) g19) p20 
(dTurn (nat_lit 9) [] [] true (xCall g12 [g16, g20]) p21 
(dLook (nat_lit 10) [] [(nat_lit 9)] (lkBin .lss g21 q6) p22 (dEnd [(nat_lit 12), (nat_lit 13), (nat_lit 14), (nat_lit 15), (nat_lit 16), (nat_lit 17), (nat_lit 18), (nat_lit 19), (nat_lit 20), (nat_lit 21), (nat_lit 22)]))))))))))))) (kCond g22 (kSeq (oSet (xMove g3) p23 
(oSet (xNil g23) p24 
(oSet (xLook (lkLoad1 g24)) p25 
(oSet (xLook (lkBin .add g25 q14)) p26 
(oSet (xNil g23) p27 
(oDo (xTurn (tnStore (nat_lit 1) g27 g26)) 
oEnd)))))) (kSeq (oSet (xMove g2) p28 
(oSet (xMove g1) p29 
(oSet (xMove g28) p10 
(oSet (xMove g29) p11 
oEnd)))) kRet)) kSkip)) (kSeq (oSet (xMove g1) p30 
(oSet (xMove g2) p31 
(oSet (xMove g30) p10 
(oSet (xMove g31) p11 
oEnd)))) kRet)))⟩
def q322 : OpdF := kC (.func (.func (nat_lit 306)) ⟨[]⟩ ⟨[]⟩)
noncomputable def k293 : KFun := ⟨[], (oSet (xMove g0) p4 
(oSet (xMove g0) p5 
(oSet (xLook (lkLen .sl g5)) p6 
(oSet (xMove g1) p7 
(oSet (xLook (lkBin .sub g6 g7)) p8 
(oSet (xCall q322 [g4, g8]) p9 
oEnd))))))⟩
noncomputable def k294d0 : KD := 
(dLook (nat_lit 16) [] [(nat_lit 14)] (lkPick g21 g33 q0) p34 (dEnd [(nat_lit 18), (nat_lit 19), (nat_lit 20), (nat_lit 21), (nat_lit 22), (nat_lit 23), (nat_lit 24), (nat_lit 25), (nat_lit 26), (nat_lit 27), (nat_lit 28), (nat_lit 29), (nat_lit 30), (nat_lit 31), (nat_lit 32), (nat_lit 33), (nat_lit 34)]))
noncomputable def k294d1 : KD := 
(dIf [(nat_lit 14)] (wantT g21) p33 (dLook (nat_lit 15) [] [(nat_lit 14)] (lkBin .lss g32 q6) p33 k294d0) k294d0)
noncomputable def k294d2 : KD := 
(dIf [] (wantT g21) p32 (dTurn (nat_lit 14) [] [] true (xCall g22 [g26, g31]) p32 k294d1) k294d1)
noncomputable def k294d3 : KD := 
(dIf [] (wantT g21) p31 (dLook (nat_lit 13) [] [] (lkLoadN (nat_lit 2) g30) p31 k294d2) k294d2)
noncomputable def k294d4 : KD := 
(dIf [] (wantT g21) p30 (dLook (nat_lit 12) [] [] (lkIxSl (nat_lit 2) g27 g29) p30 k294d3) k294d3)
noncomputable def k294d5 : KD := 
(dIf [] (wantT g21) p29 (dLook (nat_lit 11) [] [] (lkBin .sub g28 q14) p29 k294d4) k294d4)
noncomputable def k294d6 : KD := 
(dIf [] (wantT g21) p28 (dLook (nat_lit 10) [] [] (lkMove g9) p28 k294d5) k294d5)
noncomputable def k294d7 : KD := 
(dIf [] (wantT g21) p27 (dLook (nat_lit 9) [] [] (lkMove g0) p27 k294d6) k294d6)
noncomputable def k294d8 : KD := 
(dIf [] (wantT g21) p26 (dLook (nat_lit 8) [] [] (lkLoadN (nat_lit 2) g25) p26 k294d7) k294d7)
noncomputable def k294d9 : KD := 
(dIf [] (wantT g21) p25 (dLook (nat_lit 7) [] [] (lkIxSl (nat_lit 2) g23 g24) p25 k294d8) k294d8)
noncomputable def k294d10 : KD := 
(dIf [] (wantT g21) p24 (dLook (nat_lit 6) [] [] (lkMove g9) p24 k294d9) k294d9)
noncomputable def k294d11 : KD := 
(dIf [] (wantT g21) p23 (dLook (nat_lit 5) [] [] (lkMove g0) p23 k294d10) k294d10)
noncomputable def k294 : KFun := ⟨[], (kSeq (oSet (xMove g1) p10 
(oSet (xLook (lkBin .add g10 q14)) p11 
(oSet (xMove g11) p8 
oEnd))) (kBlock (nat_lit 0) (kLoop (kSeq (kSeq (oSet (xMove g8) p12 
(oSet (xMove g2) p13 
(oSet (xLook (lkBin .lss g12 g13)) p14 
oEnd))) (kCond g14 kSkip (kExit (nat_lit 0)))) (kSeq (kBlock (nat_lit 1) (kSeq (oSet (xMove g8) p17 
(oSet (xMove g17) p9 
oEnd)) (kBlock (nat_lit 2) (kLoop (kSeq (kSeq (kDraw 
(dLook (nat_lit 0) [] [] (lkMove g9) p18 
(dLook (nat_lit 1) [] [] (lkMove g1) p19 
(dLook (nat_lit 2) [] [] (lkBin .gtr g18 g19) p20 
(dLook (nat_lit 3) [] [] (lkMove g20) p21 
(dIf [] (wantT g21) p22 (dLook (nat_lit 4) [] [] (lkMove g3) p22 k294d11) k294d11)))))) (kCond g34 kSkip (kExit (nat_lit 2)))) (kSeq (kBlock (nat_lit 3) (kDraw 
(dLook (nat_lit 0) [] [] (lkMove g0) p37 
(dLook (nat_lit 1) [] [] (lkMove g9) p38 
(dLook (nat_lit 2) [] [] (lkMove g0) p39 
(dLook (nat_lit 3) [] [] (lkMove g9) p40 
(dLook (nat_lit 4) [] [] (lkBin .sub g40 q14) p41 
(dLook (nat_lit 5) [] [] (lkMove g0) p42 
(dLook (nat_lit 6) [] [] (lkMove g9) p43 
(dLook (nat_lit 7) [] [] (lkBin .sub g43 q14) p44 
(dLook (nat_lit 8) [] [] (lkIxSl (nat_lit 2) g42 g44) p45 
(dLook (nat_lit 9) [] [] (lkLoadN (nat_lit 2) g45) p46 
(dLook (nat_lit 10) [] [] (lkMove g0) p47 
(dLook (nat_lit 11) [] [] (lkMove g9) p48 
(dLook (nat_lit 12) [] [] (lkIxSl (nat_lit 2) g47 g48) p49 
(dLook (nat_lit 13) [] [] (lkLoadN (nat_lit 2) g49) p50 
(dLook (nat_lit 14) [] [] (lkIxSl (nat_lit 2) g37 g38) p51 
(dTurn (nat_lit 15) [] [] true (xTurn (tnStore (nat_lit 2) g51 g46)) noDst 
(dLook (nat_lit 16) [] [(nat_lit 15)] (lkIxSl (nat_lit 2) g39 g41) p52 
(dTurn (nat_lit 17) [] [(nat_lit 15)] true (xTurn (tnStore (nat_lit 2) g52 g50)) noDst (dEnd [(nat_lit 37), (nat_lit 38), (nat_lit 39), (nat_lit 40), (nat_lit 41), (nat_lit 42), (nat_lit 43), (nat_lit 44), (nat_lit 45), (nat_lit 46), (nat_lit 47), (nat_lit 48), (nat_lit 49), (nat_lit 50), (nat_lit 51), (nat_lit 52)]))))))))))))))))))))) (oSet (xMove g9) p35 
(oSet (xLook (lkBin .sub g35 q14)) p36 
(oSet (xMove g36) p9 
oEnd))))))))) (oSet (xMove g8) p15 
(oSet (xLook (lkBin .add g15 q14)) p16 
(oSet (xMove g16) p8 
oEnd))))))))⟩
def q323 : OpdF := kC (.func (.func (nat_lit 307)) ⟨[]⟩ ⟨[]⟩)
noncomputable def k295 : KFun := ⟨[], (kSeq (oSet (xMove g1) p13 
(oSet (xMove g13) p8 
oEnd)) (kSeq (oSet (xMove q6) p9 
oEnd) (kSeq (oSet (xMove g2) p14 
(oSet (xMove g1) p15 
(oSet (xLook (lkBin .sub g14 g15)) p16 
(oSet (xMove g16) p10 
oEnd)))) (kSeq (kSeq (oSet (xMove g10) p17 
(oSet (xLook (lkBin .sub g17 q14)) p18 
(oSet (xLook (lkBin .quo g18 q7)) p19 
(oSet (xMove g19) p11 
oEnd)))) (kBlock (nat_lit 0) (kLoop (kSeq (kSeq (oSet (xMove g11) p20 
(oSet (xLook (lkBin .geq g20 q6)) p21 
oEnd)) (kCond g21 kSkip (kExit (nat_lit 0)))) (kSeq (kBlock (nat_lit 1) (oSet (xMove g0) p24 
(oSet (xMove g11) p25 
(oSet (xMove g10) p26 
(oSet (xMove g8) p27 
(oSet (xMove g3) p28 
(oSet (xCall q323 [g24, g25, g26, g27, g28]) p29 
oEnd))))))) (oSet (xMove g11) p22 
(oSet (xLook (lkBin .sub g22 q14)) p23 
(oSet (xMove g23) p11 
oEnd)))))))) (kSeq (oSet (xMove g10) p30 
(oSet (xLook (lkBin .sub g30 q14)) p31 
(oSet (xMove g31) p12 
oEnd))) (kBlock (nat_lit 2) (kLoop (kSeq (kSeq (oSet (xMove g12) p32 
(oSet (xLook (lkBin .geq g32 q6)) p33 
oEnd)) (kCond g33 kSkip (kExit (nat_lit 2)))) (kSeq (kBlock (nat_lit 3) (kSeq (kDraw 
(dLook (nat_lit 0) [] [] (lkMove g0) p36 
(dLook (nat_lit 1) [] [] (lkMove g8) p37 
(dLook (nat_lit 2) [] [] (lkMove g0) p38 
(dLook (nat_lit 3) [] [] (lkMove g8) p39 
(dLook (nat_lit 4) [] [] (lkMove g12) p40 
(dLook (nat_lit 5) [] [] (lkBin .add g39 g40) p41 
(dLook (nat_lit 6) [] [] (lkMove g0) p42 
(dLook (nat_lit 7) [] [] (lkMove g8) p43 
(dLook (nat_lit 8) [] [] (lkMove g12) p44 
(dLook (nat_lit 9) [] [] (lkBin .add g43 g44) p45 
(dLook (nat_lit 10) [] [] (lkIxSl (nat_lit 2) g42 g45) p46 
(dLook (nat_lit 11) [] [] (lkLoadN (nat_lit 2) g46) p47 
(dLook (nat_lit 12) [] [] (lkMove g0) p48 
(dLook (nat_lit 13) [] [] (lkMove g8) p49 
(dLook (nat_lit 14) [] [] (lkIxSl (nat_lit 2) g48 g49) p50 
(dLook (nat_lit 15) [] [] (lkLoadN (nat_lit 2) g50) p51 
(dLook (nat_lit 16) [] [] (lkIxSl (nat_lit 2) g36 g37) p52 
(dTurn (nat_lit 17) [] [] true (xTurn (tnStore (nat_lit 2) g52 g47)) noDst 
(dLook (nat_lit 18) [] [(nat_lit 17)] (lkIxSl (nat_lit 2) g38 g41) p53 
(dTurn (nat_lit 19) [] [(nat_lit 17)] true (xTurn (tnStore (nat_lit 2) g53 g51)) noDst (dEnd [(nat_lit 36), (nat_lit 37), (nat_lit 38), (nat_lit 39), (nat_lit 40), (nat_lit 41), (nat_lit 42), (nat_lit 43), (nat_lit 44), (nat_lit 45), (nat_lit 46), (nat_lit 47), (nat_lit 48), (nat_lit 49), (nat_lit 50), (nat_lit 51), (nat_lit 52), (nat_lit 53)])))))))))))))))))))))) (oSet (xMove g0) p54 
(oSet (xMove g9) p55 
(oSet (xMove g12) p56 
(oSet (xMove g8) p57 
(oSet (xMove g3) p58 
(oSet (xCall q323 [g54, g55, g56, g57, g58]) p59 
oEnd)))))))) (oSet (xMove g12) p34 
(oSet (xLook (lkBin .sub g34 q14)) p35 
(oSet (xMove g35) p12 
oEnd))))))))))))⟩
noncomputable def k296 : KFun := ⟨[], (kSeq (oSet (xMove g2) p13 
(oSet (xMove g1) p14 
(oSet (xLook (lkBin .sub g13 g14)) p15 
(oSet (xMove g15) p8 
oEnd)))) (kSeq (oSet (xMove g8) p16 
(oSet (xLook (lkBin .geq g16 q44)) p17 
oEnd)) (kCond g17 (kSeq (oSet (xMove g8) p18 
(oSet (xLook (lkIntTo .u64 g18)) p19 
(oSet (xTurn (tnAlloc q196)) p9 
(oDo (xTurn (tnStore (nat_lit 1) g9 g19)) 
oEnd)))) (kSeq (oSet (xMove g8) p20 
(oSet (xCall q197 [g20]) p21 
(oSet (xMove g21) p10 
oEnd))) (kSeq (oSet (xMove g1) p22 
(oSet (xMove g8) p23 
(oSet (xLook (lkBin .quo g23 q43)) p24 
(oSet (xLook (lkBin .mul g24 q7)) p25 
(oSet (xLook (lkBin .add g22 g25)) p26 
(oSet (xLook (lkBin .sub g26 q14)) p27 
(oSet (xMove g27) p11 
oEnd))))))) (kBlock (nat_lit 0) (kLoop (kSeq (kSeq (oSet (xMove g11) p28 
(oSet (xMove g1) p29 
(oSet (xMove g8) p30 
(oSet (xLook (lkBin .quo g30 q43)) p31 
(oSet (xLook (lkBin .mul g31 q7)) p32 
(oSet (xLook (lkBin .add g29 g32)) p33 
(oSet (xLook (lkBin .add g33 q14)) p34 
(oSet (xLook (lkBin .leq g28 g34)) p35 
oEnd)))))))) (kCond g35 kSkip (kExit (nat_lit 0)))) (kSeq (kBlock (nat_lit 1) (kSeq (oSet (xCall q198 [g9]) p38 
(oSet (xMove g10) p39 
(oSet (xLook (lkBin .sub g39 q199)) p40 
(oSet (xLook (lkBin .and g38 g40)) p41 
(oSet (xLook (lkIntTo .i64 g41)) p42 
(oSet (xMove g42) p12 
oEnd)))))) (kSeq (kSeq (oSet (xMove g12) p43 
(oSet (xMove g8) p44 
(oSet (xLook (lkBin .geq g43 g44)) p45 
oEnd))) (kCond g45 (oSet (xMove g12) p46 
(oSet (xMove g8) p47 
(oSet (xLook (lkBin .sub g46 g47)) p48 
(oSet (xMove g48) p12 
oEnd)))) kSkip)) (kDraw 
(dLook (nat_lit 0) [] [] (lkMove g0) p49 
(dLook (nat_lit 1) [] [] (lkMove g11) p50 
(dLook (nat_lit 2) [] [] (lkMove g0) p51 
(dLook (nat_lit 3) [] [] (lkMove g1) p52 
(dLook (nat_lit 4) [] [] (lkMove g12) p53 
(dLook (nat_lit 5) [] [] (lkBin .add g52 g53) p54 
(dLook (nat_lit 6) [] [] (lkMove g0) p55 
(dLook (nat_lit 7) [] [] (lkMove g1) p56 
(dLook (nat_lit 8) [] [] (lkMove g12) p57 
(dLook (nat_lit 9) [] [] (lkBin .add g56 g57) p58 
(dLook (nat_lit 10) [] [] (lkIxSl (nat_lit 2) g55 g58) p59 
(dLook (nat_lit 11) [] [] (lkLoadN (nat_lit 2) g59) p60 
(dLook (nat_lit 12) [] [] (lkMove g0) p61 
(dLook (nat_lit 13) [] [] (lkMove g11) p62 
(dLook (nat_lit 14) [] [] (lkIxSl (nat_lit 2) g61 g62) p63 
(dLook (nat_lit 15) [] [] (lkLoadN (nat_lit 2) g63) p64 
(dLook (nat_lit 16) [] [] (lkIxSl (nat_lit 2) g49 g50) p65 
(dTurn (nat_lit 17) [] [] true (xTurn (tnStore (nat_lit 2) g65 g60)) noDst 
(dLook (nat_lit 18) [] [(nat_lit 17)] (lkIxSl (nat_lit 2) g51 g54) p66 
(dTurn (nat_lit 19) [] [(nat_lit 17)] true (xTurn (tnStore (nat_lit 2) g66 g64)) noDst (dEnd [(nat_lit 49), (nat_lit 50), (nat_lit 51), (nat_lit 52), (nat_lit 53), (nat_lit 54), (nat_lit 55), (nat_lit 56), (nat_lit 57), (nat_lit 58), (nat_lit 59), (nat_lit 60), (nat_lit 61), (nat_lit 62), (nat_lit 63), (nat_lit 64), (nat_lit 65), (nat_lit 66)]))))))))))))))))))))))))) (oSet (xMove g11) p36 
(oSet (xLook (lkBin .add g36 q14)) p37 
(oSet (xMove g37) p11 
oEnd)))))))))) kSkip)))⟩
def q324 : OpdF := kC (.func (.func (nat_lit 308)) ⟨[]⟩ ⟨[]⟩)
def q325 : OpdF := kC (.func (.func (nat_lit 309)) ⟨[]⟩ ⟨[]⟩)
noncomputable def k297 : KFun := ⟨[rTmp (nat_lit 8) g8, rTmp (nat_lit 9) g9], (kSeq (oSet (xMove q6) p8 
(oSet (xMove q6) p9 
oEnd)) (kSeq (oSet (xMove g2) p15 
(oSet (xMove g1) p16 
(oSet (xLook (lkBin .sub g15 g16)) p17 
(oSet (xMove g17) p10 
oEnd)))) (kSeq (oSet (xTurn (tnAlloc q175)) p11 
oEnd) (kSeq (oSet (xMove g1) p18 
(oSet (xMove g10) p19 
(oSet (xLook (lkBin .quo g19 q43)) p20 
(oSet (xLook (lkBin .mul g20 q14)) p21 
(oSet (xLook (lkBin .add g18 g21)) p22 
(oSet (xMove g22) p12 
oEnd)))))) (kSeq (oSet (xMove g1) p23 
(oSet (xMove g10) p24 
(oSet (xLook (lkBin .quo g24 q43)) p25 
(oSet (xLook (lkBin .mul g25 q7)) p26 
(oSet (xLook (lkBin .add g23 g26)) p27 
(oSet (xMove g27) p13 
oEnd)))))) (kSeq (oSet (xMove g1) p28 
(oSet (xMove g10) p29 
(oSet (xLook (lkBin .quo g29 q43)) p30 
(oSet (xLook (lkBin .mul g30 q69)) p31 
(oSet (xLook (lkBin .add g28 g31)) p32 
(oSet (xMove g32) p14 
oEnd)))))) (kSeq (kSeq (oSet (xMove g10) p33 
(oSet (xLook (lkBin .geq g33 q44)) p34 
oEnd)) (kCond g34 (kSeq (kSeq (oSet (xMove g10) p35 
(oSet (xLook (lkBin .geq g35 q200)) p36 
oEnd)) (kCond g36 (kSeq (oSet (xMove g0) p37 
(oSet (xMove g12) p38 
(oSet (xMove g3) p39 
(oSet (xCall q324 [g37, g38, g11, g39]) p40 
(oSet (xMove g40) p12 
oEnd))))) (kSeq (oSet (xMove g0) p41 
(oSet (xMove g13) p42 
(oSet (xMove g3) p43 
(oSet (xCall q324 [g41, g42, g11, g43]) p44 
(oSet (xMove g44) p13 
oEnd))))) (oSet (xMove g0) p45 
(oSet (xMove g14) p46 
(oSet (xMove g3) p47 
(oSet (xCall q324 [g45, g46, g11, g47]) p48 
(oSet (xMove g48) p14 
oEnd))))))) kSkip)) (oSet (xMove g0) p49 
(oSet (xMove g12) p50 
(oSet (xMove g13) p51 
(oSet (xMove g14) p52 
(oSet (xMove g3) p53 
(oSet (xCall q325 [g49, g50, g51, g52, g11, g53]) p54 
(oSet (xMove g54) p13 
oEnd)))))))) kSkip)) (kSeq (oSet (xLook (lkLoad1 g11)) p55 
oEnd) (kBlock (nat_lit 0) (kSeq (oSet (xLook (lkEq false .int g55 q6)) p58 
(oSet (xMove g58) p57 
oEnd)) (kCond g57 (kSeq (oSet (xMove g13) p59 
(oSet (xMove g59) p8 
(oSet (xMove q14) p9 
oEnd))) kRet) (kSeq (oSet (xLook (lkEq false .int g55 q131)) p61 
(oSet (xMove g61) p60 
oEnd)) (kCond g60 (kSeq (oSet (xMove g13) p62 
(oSet (xMove g62) p8 
(oSet (xMove q7) p9 
oEnd))) kRet) (kSeq (oSet (xMove g13) p56 
(oSet (xMove g56) p8 
(oSet (xMove q6) p9 
oEnd))) kRet))))))))))))))⟩
noncomputable def k298 : KFun := ⟨[], (kSeq (oSet (xMove g1) p10 
(oSet (xMove g10) p8 
oEnd)) (kSeq (oSet (xMove g2) p11 
(oSet (xLook (lkBin .sub g11 q14)) p12 
(oSet (xMove g12) p9 
oEnd))) (kBlock (nat_lit 0) (kLoop (kSeq (kSeq (oSet (xMove g8) p13 
(oSet (xMove g9) p14 
(oSet (xLook (lkBin .lss g13 g14)) p15 
oEnd))) (kCond g15 kSkip (kExit (nat_lit 0)))) (kBlock (nat_lit 1) (kSeq (kDraw 
(dLook (nat_lit 0) [] [] (lkMove g0) p16 
(dLook (nat_lit 1) [] [] (lkMove g8) p17 
(dLook (nat_lit 2) [] [] (lkMove g0) p18 
(dLook (nat_lit 3) [] [] (lkMove g9) p19 
(dLook (nat_lit 4) [] [] (lkMove g0) p20 
(dLook (nat_lit 5) [] [] (lkMove g9) p21 
(dLook (nat_lit 6) [] [] (lkIxSl (nat_lit 2) g20 g21) p22 
(dLook (nat_lit 7) [] [] (lkLoadN (nat_lit 2) g22) p23 
(dLook (nat_lit 8) [] [] (lkMove g0) p24 
(dLook (nat_lit 9) [] [] (lkMove g8) p25 
(dLook (nat_lit 10) [] [] (lkIxSl (nat_lit 2) g24 g25) p26 
(dLook (nat_lit 11) [] [] (lkLoadN (nat_lit 2) g26) p27 
(dLook (nat_lit 12) [] [] (lkIxSl (nat_lit 2) g16 g17) p28 
(dTurn (nat_lit 13) [] [] true (xTurn (tnStore (nat_lit 2) g28 g23)) noDst 
(dLook (nat_lit 14) [] [(nat_lit 13)] (lkIxSl (nat_lit 2) g18 g19) p29 
(dTurn (nat_lit 15) [] [(nat_lit 13)] true (xTurn (tnStore (nat_lit 2) g29 g27)) noDst (dEnd [(nat_lit 16), (nat_lit 17), (nat_lit 18), (nat_lit 19), (nat_lit 20), (nat_lit 21), (nat_lit 22), (nat_lit 23), (nat_lit 24), (nat_lit 25), (nat_lit 26), (nat_lit 27), (nat_lit 28), (nat_lit 29)])))))))))))))))))) (kSeq (oSet (xMove g8) p30 
(oSet (xLook (lkBin .add g30 q14)) p31 
(oSet (xMove g31) p8 
oEnd))) (oSet (xMove g9) p32 
(oSet (xLook (lkBin .sub g32 q14)) p33 
(oSet (xMove g33) p9 
oEnd)))))))))))⟩
noncomputable def k299d0 : KD := 
(dLook (nat_lit 17) [] [(nat_lit 14)] (lkPick g22 g35 q0) p36 (dEnd [(nat_lit 19), (nat_lit 20), (nat_lit 21), (nat_lit 22), (nat_lit 23), (nat_lit 24), (nat_lit 25), (nat_lit 26), (nat_lit 27), (nat_lit 28), (nat_lit 29), (nat_lit 30), (nat_lit 31), (nat_lit 32), (nat_lit 33), (nat_lit 34), (nat_lit 35), (nat_lit 36)]))
noncomputable def k299d1 : KD := 
(dIf [(nat_lit 14)] (wantT g22) p35 (dLook (nat_lit 16) [] [(nat_lit 14)] (lkUn .not g34) p35 k299d0) k299d0)
noncomputable def k299d2 : KD := 
(dIf [(nat_lit 14)] (wantT g22) p34 (dLook (nat_lit 15) [] [(nat_lit 14)] (lkBin .lss g33 q6) p34 k299d1) k299d1)
noncomputable def k299d3 : KD := 
(dIf [] (wantT g22) p33 (dTurn (nat_lit 14) [] [] true (xCall g23 [g27, g32]) p33 k299d2) k299d2)
noncomputable def k299d4 : KD := 
(dIf [] (wantT g22) p32 (dLook (nat_lit 13) [] [] (lkLoadN (nat_lit 2) g31) p32 k299d3) k299d3)
noncomputable def k299d5 : KD := 
(dIf [] (wantT g22) p31 (dLook (nat_lit 12) [] [] (lkIxSl (nat_lit 2) g28 g30) p31 k299d4) k299d4)
noncomputable def k299d6 : KD := 
(dIf [] (wantT g22) p30 (dLook (nat_lit 11) [] [] (lkBin .sub g29 q14) p30 k299d5) k299d5)
noncomputable def k299d7 : KD := 
(dIf [] (wantT g22) p29 (dLook (nat_lit 10) [] [] (lkMove g9) p29 k299d6) k299d6)
noncomputable def k299d8 : KD := 
(dIf [] (wantT g22) p28 (dLook (nat_lit 9) [] [] (lkMove g0) p28 k299d7) k299d7)
noncomputable def k299d9 : KD := 
(dIf [] (wantT g22) p27 (dLook (nat_lit 8) [] [] (lkLoadN (nat_lit 2) g26) p27 k299d8) k299d8)
noncomputable def k299d10 : KD := 
(dIf [] (wantT g22) p26 (dLook (nat_lit 7) [] [] (lkIxSl (nat_lit 2) g24 g25) p26 k299d9) k299d9)
noncomputable def k299d11 : KD := 
(dIf [] (wantT g22) p25 (dLook (nat_lit 6) [] [] (lkMove g9) p25 k299d10) k299d10)
noncomputable def k299d12 : KD := 
(dIf [] (wantT g22) p24 (dLook (nat_lit 5) [] [] (lkMove g0) p24 k299d11) k299d11)
noncomputable def k299 : KFun := ⟨[rTmp (nat_lit 8) g8], (kSeq (oSet (xMove q0) p8 
oEnd) (kSeq (oSet (xMove g1) p13 
(oSet (xLook (lkBin .add g13 q14)) p14 
(oSet (xMove g14) p9 
oEnd))) (kSeq (kSeq (oSet (xMove q6) p10 
oEnd) (kBlock (nat_lit 0) (kLoop (kSeq (kSeq (oSet (xMove g10) p15 
(oSet (xLook (lkBin .lss g15 q77)) p16 
oEnd)) (kCond g16 kSkip (kExit (nat_lit 0)))) (kSeq (kBlock (nat_lit 1) (kSeq (kBlock (nat_lit 2) (kLoop (kSeq (kSeq (kDraw 
(dLook (nat_lit 0) [] [] (lkMove g9) p19 
(dLook (nat_lit 1) [] [] (lkMove g2) p20 
(dLook (nat_lit 2) [] [] (lkBin .lss g19 g20) p21 
(dLook (nat_lit 3) [] [] (lkMove g21) p22 
(dIf [] (wantT g22) p23 (dLook (nat_lit 4) [] [] (lkMove g3) p23 k299d12) k299d12)))))) (kCond g36 kSkip (kExit (nat_lit 2)))) (kBlock (nat_lit 3) (oSet (xMove g9) p37 
(oSet (xLook (lkBin .add g37 q14)) p38 
(oSet (xMove g38) p9 
oEnd))))))) (kSeq (kSeq (oSet (xMove g9) p39 
(oSet (xMove g2) p40 
(oSet (xLook (lkEq false .int g39 g40)) p41 
oEnd))) (kCond g41 (kSeq (oSet (xMove q13) p8 
oEnd) kRet) kSkip)) (kSeq (kSeq (oSet (xMove g2) p42 
(oSet (xMove g1) p43 
(oSet (xLook (lkBin .sub g42 g43)) p44 
(oSet (xLook (lkBin .lss g44 q200)) p45 
oEnd)))) (kCond g45 (kSeq (oSet (xMove q0) p8 
oEnd) kRet) kSkip)) (kSeq (kDraw 
(dLook (nat_lit 0) [] [] (lkMove g0) p46 
(dLook (nat_lit 1) [] [] (lkMove g9) p47 
(dLook (nat_lit 2) [] [] (lkMove g0) p48 
(dLook (nat_lit 3) [] [] (lkMove g9) p49 
(dLook (nat_lit 4) [] [] (lkBin .sub g49 q14) p50 
(dLook (nat_lit 5) [] [] (lkMove g0) p51 
(dLook (nat_lit 6) [] [] (lkMove g9) p52 
(dLook (nat_lit 7) [] [] (lkBin .sub g52 q14) p53 
(dLook (nat_lit 8) [] [] (lkIxSl (nat_lit 2) g51 g53) p54 
(dLook (nat_lit 9) [] [] (lkLoadN (nat_lit 2) g54) p55 
(dLook (nat_lit 10) [] [] (lkMove g0) p56 
(dLook (nat_lit 11) [] [] (lkMove g9) p57 
(dLook (nat_lit 12) [] [] (lkIxSl (nat_lit 2) g56 g57) p58 
(dLook (nat_lit 13) [] [] (lkLoadN (nat_lit 2) g58) p59 
(dLook (nat_lit 14) [] [] (lkIxSl (nat_lit 2) g46 g47) p60 
(dTurn (nat_lit 15) [] [] true (xTurn (tnStore (nat_lit 2) g60 g55)) noDst 
(dLook (nat_lit 16) [] [(nat_lit 15)] (lkIxSl (nat_lit 2) g48 g50) p61 
(dTurn (nat_lit 17) [] [(nat_lit 15)] true (xTurn (tnStore (nat_lit 2) g61 g59)) noDst (dEnd [(nat_lit 46), (nat_lit 47), (nat_lit 48), (nat_lit 49), (nat_lit 50), (nat_lit 51), (nat_lit 52), (nat_lit 53), (nat_lit 54), (nat_lit 55), (nat_lit 56), (nat_lit 57), (nat_lit 58), (nat_lit 59), (nat_lit 60), (nat_lit 61)])))))))))))))))))))) (kSeq (kSeq (oSet (xMove g9) p62 
(oSet (xMove g1) p63 
(oSet (xLook (lkBin .sub g62 g63)) p64 
(oSet (xLook (lkBin .geq g64 q7)) p65 
oEnd)))) (kCond g65 (kSeq (oSet (xMove g9) p66 
(oSet (xLook (lkBin .sub g66 q14)) p67 
(oSet (xMove g67) p11 
oEnd))) (kBlock (nat_lit 4) (kLoop (kSeq (kSeq (oSet (xMove g11) p68 
(oSet (xLook (lkBin .geq g68 q14)) p69 
oEnd)) (kCond g69 kSkip (kExit (nat_lit 4)))) (kSeq (kBlock (nat_lit 5) (kSeq (kSeq (kDraw 
(dLook (nat_lit 0) [] [] (lkMove g3) p72 
(dLook (nat_lit 1) [] [] (lkMove g0) p73 
(dLook (nat_lit 2) [] [] (lkMove g11) p74 
(dLook (nat_lit 3) [] [] (lkIxSl (nat_lit 2) g73 g74) p75 
(dLook (nat_lit 4) [] [] (lkLoadN (nat_lit 2) g75) p76 
(dLook (nat_lit 5) [] [] (lkMove g0) p77 
(dLook (nat_lit 6) [] [] (lkMove g11) p78 
(dLook (nat_lit 7) [] [] (lkBin .sub g78 q14) p79 
(dLook (nat_lit 8) [] [] (lkIxSl (nat_lit 2) g77 g79) p80 
(dLook (nat_lit 9) [] [] (lkLoadN (nat_lit 2) g80) p81 
(dTurn (nat_lit 10) [] [] true (xCall g72 [g76, g81]) p82 
(dLook (nat_lit 11) [] [(nat_lit 10)] (lkBin .lss g82 q6) p83 
(dLook (nat_lit 12) [] [(nat_lit 10)] (lkUn .not g83) p84 (dEnd [(nat_lit 72), (nat_lit 73), (nat_lit 74), (nat_lit 75), (nat_lit 76), (nat_lit 77), (nat_lit 78), (nat_lit 79), (nat_lit 80), (nat_lit 81), (nat_lit 82), (nat_lit 83), (nat_lit 84)]))))))))))))))) (kCond g84 (kExit (nat_lit 4)) kSkip)) (kDraw 
(dLook (nat_lit 0) [] [] (lkMove g0) p85 
(dLook (nat_lit 1) [] [] (lkMove g11) p86 
(dLook (nat_lit 2) [] [] (lkMove g0) p87 
(dLook (nat_lit 3) [] [] (lkMove g11) p88 
(dLook (nat_lit 4) [] [] (lkBin .sub g88 q14) p89 
(dLook (nat_lit 5) [] [] (lkMove g0) p90 
(dLook (nat_lit 6) [] [] (lkMove g11) p91 
(dLook (nat_lit 7) [] [] (lkBin .sub g91 q14) p92 
(dLook (nat_lit 8) [] [] (lkIxSl (nat_lit 2) g90 g92) p93 
(dLook (nat_lit 9) [] [] (lkLoadN (nat_lit 2) g93) p94 
(dLook (nat_lit 10) [] [] (lkMove g0) p95 
(dLook (nat_lit 11) [] [] (lkMove g11) p96 
(dLook (nat_lit 12) [] [] (lkIxSl (nat_lit 2) g95 g96) p97 
(dLook (nat_lit 13) [] [] (lkLoadN (nat_lit 2) g97) p98 
(dLook (nat_lit 14) [] [] (lkIxSl (nat_lit 2) g85 g86) p99 
(dTurn (nat_lit 15) [] [] true (xTurn (tnStore (nat_lit 2) g99 g94)) noDst 
(dLook (nat_lit 16) [] [(nat_lit 15)] (lkIxSl (nat_lit 2) g87 g89) p100 
(dTurn (nat_lit 17) [] [(nat_lit 15)] true (xTurn (tnStore (nat_lit 2) g100 g98)) noDst (dEnd [(nat_lit 85), (nat_lit 86), (nat_lit 87), (nat_lit 88), (nat_lit 89), (nat_lit 90), (nat_lit 91), (nat_lit 92), (nat_lit 93), (nat_lit 94), (nat_lit 95), (nat_lit 96), (nat_lit 97), (nat_lit 98), (nat_lit 99), (nat_lit 100)])))))))))))))))))))))) (oSet (xMove g11) p70 
(oSet (xLook (lkBin .sub g70 q14)) p71 
(oSet (xMove g71) p11 
oEnd)))))))) kSkip)) (kSeq (oSet (xMove g2) p101 
(oSet (xMove g9) p102 
(oSet (xLook (lkBin .sub g101 g102)) p103 
(oSet (xLook (lkBin .geq g103 q7)) p104 
oEnd)))) (kCond g104 (kSeq (oSet (xMove g9) p105 
(oSet (xLook (lkBin .add g105 q14)) p106 
(oSet (xMove g106) p12 
oEnd))) (kBlock (nat_lit 6) (kLoop (kSeq (kSeq (oSet (xMove g12) p107 
(oSet (xMove g2) p108 
(oSet (xLook (lkBin .lss g107 g108)) p109 
oEnd))) (kCond g109 kSkip (kExit (nat_lit 6)))) (kSeq (kBlock (nat_lit 7) (kSeq (kSeq (kDraw 
(dLook (nat_lit 0) [] [] (lkMove g3) p112 
(dLook (nat_lit 1) [] [] (lkMove g0) p113 
(dLook (nat_lit 2) [] [] (lkMove g12) p114 
(dLook (nat_lit 3) [] [] (lkIxSl (nat_lit 2) g113 g114) p115 
(dLook (nat_lit 4) [] [] (lkLoadN (nat_lit 2) g115) p116 
(dLook (nat_lit 5) [] [] (lkMove g0) p117 
(dLook (nat_lit 6) [] [] (lkMove g12) p118 
(dLook (nat_lit 7) [] [] (lkBin .sub g118 q14) p119 
(dLook (nat_lit 8) [] [] (lkIxSl (nat_lit 2) g117 g119) p120 
(dLook (nat_lit 9) [] [] (lkLoadN (nat_lit 2) g120) p121 
(dTurn (nat_lit 10) [] [] true (xCall g112 [g116, g121]) p122 
(dLook (nat_lit 11) [] [(nat_lit 10)] (lkBin .lss g122 q6) p123 
(dLook (nat_lit 12) [] [(nat_lit 10)] (lkUn .not g123) p124 (dEnd [(nat_lit 112), (nat_lit 113), (nat_lit 114), (nat_lit 115), (nat_lit 116), (nat_lit 117), (nat_lit 118), (nat_lit 119), (nat_lit 120), (nat_lit 121), (nat_lit 122), (nat_lit 123), (nat_lit 124)]))))))))))))))) (kCond g124 (kExit (nat_lit 6)) kSkip)) (kDraw 
(dLook (nat_lit 0) [] [] (lkMove g0) p125 
(dLook (nat_lit 1) [] [] (lkMove g12) p126 
(dLook (nat_lit 2) [] [] (lkMove g0) p127 
(dLook (nat_lit 3) [] [] (lkMove g12) p128 
(dLook (nat_lit 4) [] [] (lkBin .sub g128 q14) p129 
(dLook (nat_lit 5) [] [] (lkMove g0) p130 
(dLook (nat_lit 6) [] [] (lkMove g12) p131 
(dLook (nat_lit 7) [] [] (lkBin .sub g131 q14) p132 
(dLook (nat_lit 8) [] [] (lkIxSl (nat_lit 2) g130 g132) p133 
(dLook (nat_lit 9) [] [] (lkLoadN (nat_lit 2) g133) p134 
(dLook (nat_lit 10) [] [] (lkMove g0) p135 
(dLook (nat_lit 11) [] [] (lkMove g12) p136 
(dLook (nat_lit 12) [] [] (lkIxSl (nat_lit 2) g135 g136) p137 
(dLook (nat_lit 13) [] [] (lkLoadN (nat_lit 2) g137) p138 
(dLook (nat_lit 14) [] [] (lkIxSl (nat_lit 2) g125 g126) p139 
(dTurn (nat_lit 15) [] [] true (xTurn (tnStore (nat_lit 2) g139 g134)) noDst 
(dLook (nat_lit 16) [] [(nat_lit 15)] (lkIxSl (nat_lit 2) g127 g129) p140 
(dTurn (nat_lit 17) [] [(nat_lit 15)] true (xTurn (tnStore (nat_lit 2) g140 g138)) noDst (dEnd [(nat_lit 125), (nat_lit 126), (nat_lit 127), (nat_lit 128), (nat_lit 129), (nat_lit 130), (nat_lit 131), (nat_lit 132), (nat_lit 133), (nat_lit 134), (nat_lit 135), (nat_lit 136), (nat_lit 137), (nat_lit 138), (nat_lit 139), (nat_lit 140)])))))))))))))))))))))) (oSet (xMove g12) p110 
(oSet (xLook (lkBin .add g110 q14)) p111 
(oSet (xMove g111) p12 
oEnd)))))))) kSkip)))))))) (oSet (xMove g10) p17 
(oSet (xLook (lkBin .add g17 q14)) p18 
(oSet (xMove g18) p10 
oEnd)))))))) (kSeq (oSet (xMove q0) p8 
oEnd) kRet))))⟩
noncomputable def k300d0 : KD := 
(dLook (nat_lit 16) [] [(nat_lit 13)] (lkPick g34 g46 q0) p47 (dEnd [(nat_lit 31), (nat_lit 32), (nat_lit 33), (nat_lit 34), (nat_lit 35), (nat_lit 36), (nat_lit 37), (nat_lit 38), (nat_lit 39), (nat_lit 40), (nat_lit 41), (nat_lit 42), (nat_lit 43), (nat_lit 44), (nat_lit 45), (nat_lit 46), (nat_lit 47)]))
noncomputable def k300d1 : KD := 
(dIf [(nat_lit 13)] (wantT g34) p46 (dLook (nat_lit 15) [] [(nat_lit 13)] (lkUn .not g45) p46 k300d0) k300d0)
noncomputable def k300d2 : KD := 
(dIf [(nat_lit 13)] (wantT g34) p45 (dLook (nat_lit 14) [] [(nat_lit 13)] (lkBin .lss g44 q6) p45 k300d1) k300d1)
noncomputable def k300d3 : KD := 
(dIf [] (wantT g34) p44 (dTurn (nat_lit 13) [] [] true (xCall g35 [g39, g43]) p44 k300d2) k300d2)
noncomputable def k300d4 : KD := 
(dIf [] (wantT g34) p43 (dLook (nat_lit 12) [] [] (lkLoadN (nat_lit 2) g42) p43 k300d3) k300d3)
noncomputable def k300d5 : KD := 
(dIf [] (wantT g34) p42 (dLook (nat_lit 11) [] [] (lkIxSl (nat_lit 2) g40 g41) p42 k300d4) k300d4)
noncomputable def k300d6 : KD := 
(dIf [] (wantT g34) p41 (dLook (nat_lit 10) [] [] (lkMove g11) p41 k300d5) k300d5)
noncomputable def k300d7 : KD := 
(dIf [] (wantT g34) p40 (dLook (nat_lit 9) [] [] (lkMove g0) p40 k300d6) k300d6)
noncomputable def k300d8 : KD := 
(dIf [] (wantT g34) p39 (dLook (nat_lit 8) [] [] (lkLoadN (nat_lit 2) g38) p39 k300d7) k300d7)
noncomputable def k300d9 : KD := 
(dIf [] (wantT g34) p38 (dLook (nat_lit 7) [] [] (lkIxSl (nat_lit 2) g36 g37) p38 k300d8) k300d8)
noncomputable def k300d10 : KD := 
(dIf [] (wantT g34) p37 (dLook (nat_lit 6) [] [] (lkMove g1) p37 k300d9) k300d9)
noncomputable def k300d11 : KD := 
(dIf [] (wantT g34) p36 (dLook (nat_lit 5) [] [] (lkMove g0) p36 k300d10) k300d10)
noncomputable def k300d12 : KD := 
(dLook (nat_lit 15) [] [(nat_lit 13)] (lkPick g53 g64 q0) p65 (dEnd [(nat_lit 50), (nat_lit 51), (nat_lit 52), (nat_lit 53), (nat_lit 54), (nat_lit 55), (nat_lit 56), (nat_lit 57), (nat_lit 58), (nat_lit 59), (nat_lit 60), (nat_lit 61), (nat_lit 62), (nat_lit 63), (nat_lit 64), (nat_lit 65)]))
noncomputable def k300d13 : KD := 
(dIf [(nat_lit 13)] (wantT g53) p64 (dLook (nat_lit 14) [] [(nat_lit 13)] (lkBin .lss g63 q6) p64 k300d12) k300d12)
noncomputable def k300d14 : KD := 
(dIf [] (wantT g53) p63 (dTurn (nat_lit 13) [] [] true (xCall g54 [g58, g62]) p63 k300d13) k300d13)
noncomputable def k300d15 : KD := 
(dIf [] (wantT g53) p62 (dLook (nat_lit 12) [] [] (lkLoadN (nat_lit 2) g61) p62 k300d14) k300d14)
noncomputable def k300d16 : KD := 
(dIf [] (wantT g53) p61 (dLook (nat_lit 11) [] [] (lkIxSl (nat_lit 2) g59 g60) p61 k300d15) k300d15)
noncomputable def k300d17 : KD := 
(dIf [] (wantT g53) p60 (dLook (nat_lit 10) [] [] (lkMove g12) p60 k300d16) k300d16)
noncomputable def k300d18 : KD := 
(dIf [] (wantT g53) p59 (dLook (nat_lit 9) [] [] (lkMove g0) p59 k300d17) k300d17)
noncomputable def k300d19 : KD := 
(dIf [] (wantT g53) p58 (dLook (nat_lit 8) [] [] (lkLoadN (nat_lit 2) g57) p58 k300d18) k300d18)
noncomputable def k300d20 : KD := 
(dIf [] (wantT g53) p57 (dLook (nat_lit 7) [] [] (lkIxSl (nat_lit 2) g55 g56) p57 k300d19) k300d19)
noncomputable def k300d21 : KD := 
(dIf [] (wantT g53) p56 (dLook (nat_lit 6) [] [] (lkMove g1) p56 k300d20) k300d20)
noncomputable def k300d22 : KD := 
(dIf [] (wantT g53) p55 (dLook (nat_lit 5) [] [] (lkMove g0) p55 k300d21) k300d21)
noncomputable def k300 : KFun := ⟨[rTmp (nat_lit 10) g10], (kSeq (oSet (xMove q6) p10 
oEnd) (kSeq (kDraw 
(dLook (nat_lit 0) [] [] (lkMove g0) p13 
(dLook (nat_lit 1) [] [] (lkMove g1) p14 
(dLook (nat_lit 2) [] [] (lkMove g0) p15 
(dLook (nat_lit 3) [] [] (lkMove g3) p16 
(dLook (nat_lit 4) [] [] (lkMove g0) p17 
(dLook (nat_lit 5) [] [] (lkMove g3) p18 
(dLook (nat_lit 6) [] [] (lkIxSl (nat_lit 2) g17 g18) p19 
(dLook (nat_lit 7) [] [] (lkLoadN (nat_lit 2) g19) p20 
(dLook (nat_lit 8) [] [] (lkMove g0) p21 
(dLook (nat_lit 9) [] [] (lkMove g1) p22 
(dLook (nat_lit 10) [] [] (lkIxSl (nat_lit 2) g21 g22) p23 
(dLook (nat_lit 11) [] [] (lkLoadN (nat_lit 2) g23) p24 
(dLook (nat_lit 12) [] [] (lkIxSl (nat_lit 2) g13 g14) p25 
(dTurn (nat_lit 13) [] [] true (xTurn (tnStore (nat_lit 2) g25 g20)) noDst 
(dLook (nat_lit 14) [] [(nat_lit 13)] (lkIxSl (nat_lit 2) g15 g16) p26 
(dTurn (nat_lit 15) [] [(nat_lit 13)] true (xTurn (tnStore (nat_lit 2) g26 g24)) noDst (dEnd [(nat_lit 13), (nat_lit 14), (nat_lit 15), (nat_lit 16), (nat_lit 17), (nat_lit 18), (nat_lit 19), (nat_lit 20), (nat_lit 21), (nat_lit 22), (nat_lit 23), (nat_lit 24), (nat_lit 25), (nat_lit 26)])))))))))))))))))) (kSeq (oSet (xMove g1) p27 
(oSet (xLook (lkBin .add g27 q14)) p28 
(oSet (xMove g2) p29 
(oSet (xLook (lkBin .sub g29 q14)) p30 
(oSet (xMove g28) p11 
(oSet (xMove g30) p12 
oEnd)))))) (kSeq (kBlock (nat_lit 0) (kLoop (kBlock (nat_lit 1) (kSeq (kBlock (nat_lit 2) (kLoop (kSeq (kSeq (kDraw 
(dLook (nat_lit 0) [] [] (lkMove g11) p31 
(dLook (nat_lit 1) [] [] (lkMove g12) p32 
(dLook (nat_lit 2) [] [] (lkBin .leq g31 g32) p33 
(dLook (nat_lit 3) [] [] (lkMove g33) p34 
(dIf [] (wantT g34) p35 (dLook (nat_lit 4) [] [] (lkMove g4) p35 k300d11) k300d11)))))) (kCond g47 kSkip (kExit (nat_lit 2)))) (kBlock (nat_lit 3) (oSet (xMove g11) p48 
(oSet (xLook (lkBin .add g48 q14)) p49 
(oSet (xMove g49) p11 
oEnd))))))) (kSeq (kBlock (nat_lit 4) (kLoop (kSeq (kSeq (kDraw 
(dLook (nat_lit 0) [] [] (lkMove g11) p50 
(dLook (nat_lit 1) [] [] (lkMove g12) p51 
(dLook (nat_lit 2) [] [] (lkBin .leq g50 g51) p52 
(dLook (nat_lit 3) [] [] (lkMove g52) p53 
(dIf [] (wantT g53) p54 (dLook (nat_lit 4) [] [] (lkMove g4) p54 k300d22) k300d22)))))) (kCond g65 kSkip (kExit (nat_lit 4)))) (kBlock (nat_lit 5) (oSet (xMove g12) p66 
(oSet (xLook (lkBin .sub g66 q14)) p67 
(oSet (xMove g67) p12 
oEnd))))))) (kSeq (kSeq (oSet (xMove g11) p68 
(oSet (xMove g12) p69 
(oSet (xLook (lkBin .gtr g68 g69)) p70 
oEnd))) (kCond g70 (kExit (nat_lit 0)) kSkip)) (kSeq (kDraw 
(dLook (nat_lit 0) [] [] (lkMove g0) p71 
(dLook (nat_lit 1) [] [] (lkMove g11) p72 
(dLook (nat_lit 2) [] [] (lkMove g0) p73 
(dLook (nat_lit 3) [] [] (lkMove g12) p74 
(dLook (nat_lit 4) [] [] (lkMove g0) p75 
(dLook (nat_lit 5) [] [] (lkMove g12) p76 
(dLook (nat_lit 6) [] [] (lkIxSl (nat_lit 2) g75 g76) p77 
(dLook (nat_lit 7) [] [] (lkLoadN (nat_lit 2) g77) p78 
(dLook (nat_lit 8) [] [] (lkMove g0) p79 
(dLook (nat_lit 9) [] [] (lkMove g11) p80 
(dLook (nat_lit 10) [] [] (lkIxSl (nat_lit 2) g79 g80) p81 
(dLook (nat_lit 11) [] [] (lkLoadN (nat_lit 2) g81) p82 
(dLook (nat_lit 12) [] [] (lkIxSl (nat_lit 2) g71 g72) p83 
(dTurn (nat_lit 13) [] [] true (xTurn (tnStore (nat_lit 2) g83 g78)) noDst 
(dLook (nat_lit 14) [] [(nat_lit 13)] (lkIxSl (nat_lit 2) g73 g74) p84 
(dTurn (nat_lit 15) [] [(nat_lit 13)] true (xTurn (tnStore (nat_lit 2) g84 g82)) noDst (dEnd [(nat_lit 71), (nat_lit 72), (nat_lit 73), (nat_lit 74), (nat_lit 75), (nat_lit 76), (nat_lit 77), (nat_lit 78), (nat_lit 79), (nat_lit 80), (nat_lit 81), (nat_lit 82), (nat_lit 83), (nat_lit 84)])))))))))))))))))) (kSeq (oSet (xMove g11) p85 
(oSet (xLook (lkBin .add g85 q14)) p86 
(oSet (xMove g86) p11 
oEnd))) (oSet (xMove g12) p87 
(oSet (xLook (lkBin .sub g87 q14)) p88 
(oSet (xMove g88) p12 
oEnd))))))))))) (kSeq (oSet (xMove g11) p89 
(oSet (xMove g89) p10 
oEnd)) kRet)))))⟩
noncomputable def k301d0 : KD := 
(dLook (nat_lit 15) [] [(nat_lit 13)] (lkPick g35 g46 q0) p47 (dEnd [(nat_lit 32), (nat_lit 33), (nat_lit 34), (nat_lit 35), (nat_lit 36), (nat_lit 37), (nat_lit 38), (nat_lit 39), (nat_lit 40), (nat_lit 41), (nat_lit 42), (nat_lit 43), (nat_lit 44), (nat_lit 45), (nat_lit 46), (nat_lit 47)]))
noncomputable def k301d1 : KD := 
(dIf [(nat_lit 13)] (wantT g35) p46 (dLook (nat_lit 14) [] [(nat_lit 13)] (lkBin .lss g45 q6) p46 k301d0) k301d0)
noncomputable def k301d2 : KD := 
(dIf [] (wantT g35) p45 (dTurn (nat_lit 13) [] [] true (xCall g36 [g40, g44]) p45 k301d1) k301d1)
noncomputable def k301d3 : KD := 
(dIf [] (wantT g35) p44 (dLook (nat_lit 12) [] [] (lkLoadN (nat_lit 2) g43) p44 k301d2) k301d2)
noncomputable def k301d4 : KD := 
(dIf [] (wantT g35) p43 (dLook (nat_lit 11) [] [] (lkIxSl (nat_lit 2) g41 g42) p43 k301d3) k301d3)
noncomputable def k301d5 : KD := 
(dIf [] (wantT g35) p42 (dLook (nat_lit 10) [] [] (lkMove g1) p42 k301d4) k301d4)
noncomputable def k301d6 : KD := 
(dIf [] (wantT g35) p41 (dLook (nat_lit 9) [] [] (lkMove g0) p41 k301d5) k301d5)
noncomputable def k301d7 : KD := 
(dIf [] (wantT g35) p40 (dLook (nat_lit 8) [] [] (lkLoadN (nat_lit 2) g39) p40 k301d6) k301d6)
noncomputable def k301d8 : KD := 
(dIf [] (wantT g35) p39 (dLook (nat_lit 7) [] [] (lkIxSl (nat_lit 2) g37 g38) p39 k301d7) k301d7)
noncomputable def k301d9 : KD := 
(dIf [] (wantT g35) p38 (dLook (nat_lit 6) [] [] (lkMove g12) p38 k301d8) k301d8)
noncomputable def k301d10 : KD := 
(dIf [] (wantT g35) p37 (dLook (nat_lit 5) [] [] (lkMove g0) p37 k301d9) k301d9)
noncomputable def k301d11 : KD := 
(dLook (nat_lit 16) [] [(nat_lit 13)] (lkPick g53 g65 q0) p66 (dEnd [(nat_lit 50), (nat_lit 51), (nat_lit 52), (nat_lit 53), (nat_lit 54), (nat_lit 55), (nat_lit 56), (nat_lit 57), (nat_lit 58), (nat_lit 59), (nat_lit 60), (nat_lit 61), (nat_lit 62), (nat_lit 63), (nat_lit 64), (nat_lit 65), (nat_lit 66)]))
noncomputable def k301d12 : KD := 
(dIf [(nat_lit 13)] (wantT g53) p65 (dLook (nat_lit 15) [] [(nat_lit 13)] (lkUn .not g64) p65 k301d11) k301d11)
noncomputable def k301d13 : KD := 
(dIf [(nat_lit 13)] (wantT g53) p64 (dLook (nat_lit 14) [] [(nat_lit 13)] (lkBin .lss g63 q6) p64 k301d12) k301d12)
noncomputable def k301d14 : KD := 
(dIf [] (wantT g53) p63 (dTurn (nat_lit 13) [] [] true (xCall g54 [g58, g62]) p63 k301d13) k301d13)
noncomputable def k301d15 : KD := 
(dIf [] (wantT g53) p62 (dLook (nat_lit 12) [] [] (lkLoadN (nat_lit 2) g61) p62 k301d14) k301d14)
noncomputable def k301d16 : KD := 
(dIf [] (wantT g53) p61 (dLook (nat_lit 11) [] [] (lkIxSl (nat_lit 2) g59 g60) p61 k301d15) k301d15)
noncomputable def k301d17 : KD := 
(dIf [] (wantT g53) p60 (dLook (nat_lit 10) [] [] (lkMove g1) p60 k301d16) k301d16)
noncomputable def k301d18 : KD := 
(dIf [] (wantT g53) p59 (dLook (nat_lit 9) [] [] (lkMove g0) p59 k301d17) k301d17)
noncomputable def k301d19 : KD := 
(dIf [] (wantT g53) p58 (dLook (nat_lit 8) [] [] (lkLoadN (nat_lit 2) g57) p58 k301d18) k301d18)
noncomputable def k301d20 : KD := 
(dIf [] (wantT g53) p57 (dLook (nat_lit 7) [] [] (lkIxSl (nat_lit 2) g55 g56) p57 k301d19) k301d19)
noncomputable def k301d21 : KD := 
(dIf [] (wantT g53) p56 (dLook (nat_lit 6) [] [] (lkMove g13) p56 k301d20) k301d20)
noncomputable def k301d22 : KD := 
(dIf [] (wantT g53) p55 (dLook (nat_lit 5) [] [] (lkMove g0) p55 k301d21) k301d21)
noncomputable def k301d23 : KD := 
(dLook (nat_lit 15) [] [(nat_lit 13)] (lkPick g108 g119 q0) p120 (dEnd [(nat_lit 105), (nat_lit 106), (nat_lit 107), (nat_lit 108), (nat_lit 109), (nat_lit 110), (nat_lit 111), (nat_lit 112), (nat_lit 113), (nat_lit 114), (nat_lit 115), (nat_lit 116), (nat_lit 117), (nat_lit 118), (nat_lit 119), (nat_lit 120)]))
noncomputable def k301d24 : KD := 
(dIf [(nat_lit 13)] (wantT g108) p119 (dLook (nat_lit 14) [] [(nat_lit 13)] (lkBin .lss g118 q6) p119 k301d23) k301d23)
noncomputable def k301d25 : KD := 
(dIf [] (wantT g108) p118 (dTurn (nat_lit 13) [] [] true (xCall g109 [g113, g117]) p118 k301d24) k301d24)
noncomputable def k301d26 : KD := 
(dIf [] (wantT g108) p117 (dLook (nat_lit 12) [] [] (lkLoadN (nat_lit 2) g116) p117 k301d25) k301d25)
noncomputable def k301d27 : KD := 
(dIf [] (wantT g108) p116 (dLook (nat_lit 11) [] [] (lkIxSl (nat_lit 2) g114 g115) p116 k301d26) k301d26)
noncomputable def k301d28 : KD := 
(dIf [] (wantT g108) p115 (dLook (nat_lit 10) [] [] (lkMove g1) p115 k301d27) k301d27)
noncomputable def k301d29 : KD := 
(dIf [] (wantT g108) p114 (dLook (nat_lit 9) [] [] (lkMove g0) p114 k301d28) k301d28)
noncomputable def k301d30 : KD := 
(dIf [] (wantT g108) p113 (dLook (nat_lit 8) [] [] (lkLoadN (nat_lit 2) g112) p113 k301d29) k301d29)
noncomputable def k301d31 : KD := 
(dIf [] (wantT g108) p112 (dLook (nat_lit 7) [] [] (lkIxSl (nat_lit 2) g110 g111) p112 k301d30) k301d30)
noncomputable def k301d32 : KD := 
(dIf [] (wantT g108) p111 (dLook (nat_lit 6) [] [] (lkMove g12) p111 k301d31) k301d31)
noncomputable def k301d33 : KD := 
(dIf [] (wantT g108) p110 (dLook (nat_lit 5) [] [] (lkMove g0) p110 k301d32) k301d32)
noncomputable def k301d34 : KD := 
(dLook (nat_lit 16) [] [(nat_lit 13)] (lkPick g126 g138 q0) p139 (dEnd [(nat_lit 123), (nat_lit 124), (nat_lit 125), (nat_lit 126), (nat_lit 127), (nat_lit 128), (nat_lit 129), (nat_lit 130), (nat_lit 131), (nat_lit 132), (nat_lit 133), (nat_lit 134), (nat_lit 135), (nat_lit 136), (nat_lit 137), (nat_lit 138), (nat_lit 139)]))
noncomputable def k301d35 : KD := 
(dIf [(nat_lit 13)] (wantT g126) p138 (dLook (nat_lit 15) [] [(nat_lit 13)] (lkUn .not g137) p138 k301d34) k301d34)
noncomputable def k301d36 : KD := 
(dIf [(nat_lit 13)] (wantT g126) p137 (dLook (nat_lit 14) [] [(nat_lit 13)] (lkBin .lss g136 q6) p137 k301d35) k301d35)
noncomputable def k301d37 : KD := 
(dIf [] (wantT g126) p136 (dTurn (nat_lit 13) [] [] true (xCall g127 [g131, g135]) p136 k301d36) k301d36)
noncomputable def k301d38 : KD := 
(dIf [] (wantT g126) p135 (dLook (nat_lit 12) [] [] (lkLoadN (nat_lit 2) g134) p135 k301d37) k301d37)
noncomputable def k301d39 : KD := 
(dIf [] (wantT g126) p134 (dLook (nat_lit 11) [] [] (lkIxSl (nat_lit 2) g132 g133) p134 k301d38) k301d38)
noncomputable def k301d40 : KD := 
(dIf [] (wantT g126) p133 (dLook (nat_lit 10) [] [] (lkMove g1) p133 k301d39) k301d39)
noncomputable def k301d41 : KD := 
(dIf [] (wantT g126) p132 (dLook (nat_lit 9) [] [] (lkMove g0) p132 k301d40) k301d40)
noncomputable def k301d42 : KD := 
(dIf [] (wantT g126) p131 (dLook (nat_lit 8) [] [] (lkLoadN (nat_lit 2) g130) p131 k301d41) k301d41)
noncomputable def k301d43 : KD := 
(dIf [] (wantT g126) p130 (dLook (nat_lit 7) [] [] (lkIxSl (nat_lit 2) g128 g129) p130 k301d42) k301d42)
noncomputable def k301d44 : KD := 
(dIf [] (wantT g126) p129 (dLook (nat_lit 6) [] [] (lkMove g13) p129 k301d43) k301d43)
noncomputable def k301d45 : KD := 
(dIf [] (wantT g126) p128 (dLook (nat_lit 5) [] [] (lkMove g0) p128 k301d44) k301d44)
noncomputable def k301 : KFun := ⟨[rTmp (nat_lit 10) g10, rTmp (nat_lit 11) g11], (kSeq (oSet (xMove q6) p10 
(oSet (xMove q0) p11 
oEnd)) (kSeq (kDraw 
(dLook (nat_lit 0) [] [] (lkMove g0) p14 
(dLook (nat_lit 1) [] [] (lkMove g1) p15 
(dLook (nat_lit 2) [] [] (lkMove g0) p16 
(dLook (nat_lit 3) [] [] (lkMove g3) p17 
(dLook (nat_lit 4) [] [] (lkMove g0) p18 
(dLook (nat_lit 5) [] [] (lkMove g3) p19 
(dLook (nat_lit 6) [] [] (lkIxSl (nat_lit 2) g18 g19) p20 
(dLook (nat_lit 7) [] [] (lkLoadN (nat_lit 2) g20) p21 
(dLook (nat_lit 8) [] [] (lkMove g0) p22 
(dLook (nat_lit 9) [] [] (lkMove g1) p23 
(dLook (nat_lit 10) [] [] (lkIxSl (nat_lit 2) g22 g23) p24 
(dLook (nat_lit 11) [] [] (lkLoadN (nat_lit 2) g24) p25 
(dLook (nat_lit 12) [] [] (lkIxSl (nat_lit 2) g14 g15) p26 
(dTurn (nat_lit 13) [] [] true (xTurn (tnStore (nat_lit 2) g26 g21)) noDst 
(dLook (nat_lit 14) [] [(nat_lit 13)] (lkIxSl (nat_lit 2) g16 g17) p27 
(dTurn (nat_lit 15) [] [(nat_lit 13)] true (xTurn (tnStore (nat_lit 2) g27 g25)) noDst (dEnd [(nat_lit 14), (nat_lit 15), (nat_lit 16), (nat_lit 17), (nat_lit 18), (nat_lit 19), (nat_lit 20), (nat_lit 21), (nat_lit 22), (nat_lit 23), (nat_lit 24), (nat_lit 25), (nat_lit 26), (nat_lit 27)])))))))))))))))))) (kSeq (oSet (xMove g1) p28 
(oSet (xLook (lkBin .add g28 q14)) p29 
(oSet (xMove g2) p30 
(oSet (xLook (lkBin .sub g30 q14)) p31 
(oSet (xMove g29) p12 
(oSet (xMove g31) p13 
oEnd)))))) (kSeq (kBlock (nat_lit 0) (kLoop (kSeq (kSeq (kDraw 
(dLook (nat_lit 0) [] [] (lkMove g12) p32 
(dLook (nat_lit 1) [] [] (lkMove g13) p33 
(dLook (nat_lit 2) [] [] (lkBin .leq g32 g33) p34 
(dLook (nat_lit 3) [] [] (lkMove g34) p35 
(dIf [] (wantT g35) p36 (dLook (nat_lit 4) [] [] (lkMove g4) p36 k301d10) k301d10)))))) (kCond g47 kSkip (kExit (nat_lit 0)))) (kBlock (nat_lit 1) (oSet (xMove g12) p48 
(oSet (xLook (lkBin .add g48 q14)) p49 
(oSet (xMove g49) p12 
oEnd))))))) (kSeq (kBlock (nat_lit 2) (kLoop (kSeq (kSeq (kDraw 
(dLook (nat_lit 0) [] [] (lkMove g12) p50 
(dLook (nat_lit 1) [] [] (lkMove g13) p51 
(dLook (nat_lit 2) [] [] (lkBin .leq g50 g51) p52 
(dLook (nat_lit 3) [] [] (lkMove g52) p53 
(dIf [] (wantT g53) p54 (dLook (nat_lit 4) [] [] (lkMove g4) p54 k301d22) k301d22)))))) (kCond g66 kSkip (kExit (nat_lit 2)))) (kBlock (nat_lit 3) (oSet (xMove g13) p67 
(oSet (xLook (lkBin .sub g67 q14)) p68 
(oSet (xMove g68) p13 
oEnd))))))) (kSeq (kSeq (oSet (xMove g12) p69 
(oSet (xMove g13) p70 
(oSet (xLook (lkBin .gtr g69 g70)) p71 
oEnd))) (kCond g71 (kSeq (kDraw 
(dLook (nat_lit 0) [] [] (lkMove g0) p72 
(dLook (nat_lit 1) [] [] (lkMove g13) p73 
(dLook (nat_lit 2) [] [] (lkMove g0) p74 
(dLook (nat_lit 3) [] [] (lkMove g1) p75 
(dLook (nat_lit 4) [] [] (lkMove g0) p76 
(dLook (nat_lit 5) [] [] (lkMove g1) p77 
(dLook (nat_lit 6) [] [] (lkIxSl (nat_lit 2) g76 g77) p78 
(dLook (nat_lit 7) [] [] (lkLoadN (nat_lit 2) g78) p79 
(dLook (nat_lit 8) [] [] (lkMove g0) p80 
(dLook (nat_lit 9) [] [] (lkMove g13) p81 
(dLook (nat_lit 10) [] [] (lkIxSl (nat_lit 2) g80 g81) p82 
(dLook (nat_lit 11) [] [] (lkLoadN (nat_lit 2) g82) p83 
(dLook (nat_lit 12) [] [] (lkIxSl (nat_lit 2) g72 g73) p84 
(dTurn (nat_lit 13) [] [] true (xTurn (tnStore (nat_lit 2) g84 g79)) noDst 
(dLook (nat_lit 14) [] [(nat_lit 13)] (lkIxSl (nat_lit 2) g74 g75) p85 
(dTurn (nat_lit 15) [] [(nat_lit 13)] true (xTurn (tnStore (nat_lit 2) g85 g83)) noDst (dEnd [(nat_lit 72), (nat_lit 73), (nat_lit 74), (nat_lit 75), (nat_lit 76), (nat_lit 77), (nat_lit 78), (nat_lit 79), (nat_lit 80), (nat_lit 81), (nat_lit 82), (nat_lit 83), (nat_lit 84), (nat_lit 85)])))))))))))))))))) (kSeq (oSet (xMove g13) p86 
(oSet (xMove g86) p10 
(oSet (xMove q13) p11 
oEnd))) kRet)) kSkip)) (kSeq (kDraw 
(dLook (nat_lit 0) [] [] (lkMove g0) p87 
(dLook (nat_lit 1) [] [] (lkMove g12) p88 
(dLook (nat_lit 2) [] [] (lkMove g0) p89 
(dLook (nat_lit 3) [] [] (lkMove g13) p90 
(dLook (nat_lit 4) [] [] (lkMove g0) p91 
(dLook (nat_lit 5) [] [] (lkMove g13) p92 
(dLook (nat_lit 6) [] [] (lkIxSl (nat_lit 2) g91 g92) p93 
(dLook (nat_lit 7) [] [] (lkLoadN (nat_lit 2) g93) p94 
(dLook (nat_lit 8) [] [] (lkMove g0) p95 
(dLook (nat_lit 9) [] [] (lkMove g12) p96 
(dLook (nat_lit 10) [] [] (lkIxSl (nat_lit 2) g95 g96) p97 
(dLook (nat_lit 11) [] [] (lkLoadN (nat_lit 2) g97) p98 
(dLook (nat_lit 12) [] [] (lkIxSl (nat_lit 2) g87 g88) p99 
(dTurn (nat_lit 13) [] [] true (xTurn (tnStore (nat_lit 2) g99 g94)) noDst 
(dLook (nat_lit 14) [] [(nat_lit 13)] (lkIxSl (nat_lit 2) g89 g90) p100 
(dTurn (nat_lit 15) [] [(nat_lit 13)] true (xTurn (tnStore (nat_lit 2) g100 g98)) noDst (dEnd [(nat_lit 87), (nat_lit 88), (nat_lit 89), (nat_lit 90), (nat_lit 91), (nat_lit 92), (nat_lit 93), (nat_lit 94), (nat_lit 95), (nat_lit 96), (nat_lit 97), (nat_lit 98), (nat_lit 99), (nat_lit 100)])))))))))))))))))) (kSeq (oSet (xMove g12) p101 
(oSet (xLook (lkBin .add g101 q14)) p102 
(oSet (xMove g102) p12 
oEnd))) (kSeq (oSet (xMove g13) p103 
(oSet (xLook (lkBin .sub g103 q14)) p104 
(oSet (xMove g104) p13 
oEnd))) (kSeq (kBlock (nat_lit 4) (kLoop (kBlock (nat_lit 5) (kSeq (kBlock (nat_lit 6) (kLoop (kSeq (kSeq (kDraw 
(dLook (nat_lit 0) [] [] (lkMove g12) p105 
(dLook (nat_lit 1) [] [] (lkMove g13) p106 
(dLook (nat_lit 2) [] [] (lkBin .leq g105 g106) p107 
(dLook (nat_lit 3) [] [] (lkMove g107) p108 
(dIf [] (wantT g108) p109 (dLook (nat_lit 4) [] [] (lkMove g4) p109 k301d33) k301d33)))))) (kCond g120 kSkip (kExit (nat_lit 6)))) (kBlock (nat_lit 7) (oSet (xMove g12) p121 
(oSet (xLook (lkBin .add g121 q14)) p122 
(oSet (xMove g122) p12 
oEnd))))))) (kSeq (kBlock (nat_lit 8) (kLoop (kSeq (kSeq (kDraw 
(dLook (nat_lit 0) [] [] (lkMove g12) p123 
(dLook (nat_lit 1) [] [] (lkMove g13) p124 
(dLook (nat_lit 2) [] [] (lkBin .leq g123 g124) p125 
(dLook (nat_lit 3) [] [] (lkMove g125) p126 
(dIf [] (wantT g126) p127 (dLook (nat_lit 4) [] [] (lkMove g4) p127 k301d45) k301d45)))))) (kCond g139 kSkip (kExit (nat_lit 8)))) (kBlock (nat_lit 9) (oSet (xMove g13) p140 
(oSet (xLook (lkBin .sub g140 q14)) p141 
(oSet (xMove g141) p13 
oEnd))))))) (kSeq (kSeq (oSet (xMove g12) p142 
(oSet (xMove g13) p143 
(oSet (xLook (lkBin .gtr g142 g143)) p144 
oEnd))) (kCond g144 (kExit (nat_lit 4)) kSkip)) (kSeq (kDraw 
(dLook (nat_lit 0) [] [] (lkMove g0) p145 
(dLook (nat_lit 1) [] [] (lkMove g12) p146 
(dLook (nat_lit 2) [] [] (lkMove g0) p147 
(dLook (nat_lit 3) [] [] (lkMove g13) p148 
(dLook (nat_lit 4) [] [] (lkMove g0) p149 
(dLook (nat_lit 5) [] [] (lkMove g13) p150 
(dLook (nat_lit 6) [] [] (lkIxSl (nat_lit 2) g149 g150) p151 
(dLook (nat_lit 7) [] [] (lkLoadN (nat_lit 2) g151) p152 
(dLook (nat_lit 8) [] [] (lkMove g0) p153 
(dLook (nat_lit 9) [] [] (lkMove g12) p154 
(dLook (nat_lit 10) [] [] (lkIxSl (nat_lit 2) g153 g154) p155 
(dLook (nat_lit 11) [] [] (lkLoadN (nat_lit 2) g155) p156 
(dLook (nat_lit 12) [] [] (lkIxSl (nat_lit 2) g145 g146) p157 
(dTurn (nat_lit 13) [] [] true (xTurn (tnStore (nat_lit 2) g157 g152)) noDst 
(dLook (nat_lit 14) [] [(nat_lit 13)] (lkIxSl (nat_lit 2) g147 g148) p158 
(dTurn (nat_lit 15) [] [(nat_lit 13)] true (xTurn (tnStore (nat_lit 2) g158 g156)) noDst (dEnd [(nat_lit 145), (nat_lit 146), (nat_lit 147), (nat_lit 148), (nat_lit 149), (nat_lit 150), (nat_lit 151), (nat_lit 152), (nat_lit 153), (nat_lit 154), (nat_lit 155), (nat_lit 156), (nat_lit 157), (nat_lit 158)])))))))))))))))))) (kSeq (oSet (xMove g12) p159 
(oSet (xLook (lkBin .add g159 q14)) p160 
(oSet (xMove g160) p12 
oEnd))) (oSet (xMove g13) p161 
(oSet (xLook (lkBin .sub g161 q14)) p162 
(oSet (xMove g162) p13 
oEnd))))))))))) (kSeq (kDraw 
(dLook (nat_lit 0) [] [] (lkMove g0) p163 
(dLook (nat_lit 1) [] [] (lkMove g13) p164 
(dLook (nat_lit 2) [] [] (lkMove g0) p165 
(dLook (nat_lit 3) [] [] (lkMove g1) p166 
(dLook (nat_lit 4) [] [] (lkMove g0) p167 
(dLook (nat_lit 5) [] [] (lkMove g1) p168 
(dLook (nat_lit 6) [] [] (lkIxSl (nat_lit 2) g167 g168) p169 
(dLook (nat_lit 7) [] [] (lkLoadN (nat_lit 2) g169) p170 
(dLook (nat_lit 8) [] [] (lkMove g0) p171 
(dLook (nat_lit 9) [] [] (lkMove g13) p172 
(dLook (nat_lit 10) [] [] (lkIxSl (nat_lit 2) g171 g172) p173 
(dLook (nat_lit 11) [] [] (lkLoadN (nat_lit 2) g173) p174 
(dLook (nat_lit 12) [] [] (lkIxSl (nat_lit 2) g163 g164) p175 
(dTurn (nat_lit 13) [] [] true (xTurn (tnStore (nat_lit 2) g175 g170)) noDst 
(dLook (nat_lit 14) [] [(nat_lit 13)] (lkIxSl (nat_lit 2) g165 g166) p176 
(dTurn (nat_lit 15) [] [(nat_lit 13)] true (xTurn (tnStore (nat_lit 2) g176 g174)) noDst (dEnd [(nat_lit 163), (nat_lit 164), (nat_lit 165), (nat_lit 166), (nat_lit 167), (nat_lit 168), (nat_lit 169), (nat_lit 170), (nat_lit 171), (nat_lit 172), (nat_lit 173), (nat_lit 174), (nat_lit 175), (nat_lit 176)])))))))))))))))))) (kSeq (oSet (xMove g13) p177 
(oSet (xMove g177) p10 
(oSet (xMove q0) p11 
oEnd))) kRet))))))))))))⟩
noncomputable def k302 : KFun := ⟨[rTmp (nat_lit 2) g2], (kSeq (oSet (xMove q0) p2 
oEnd) (kSeq (oSet (xMove g0) p3 
(oSet (xMove g0) p4 
(oSet (xLook (lkEq true .int g3 g4)) p5 
(oSet (xMove g5) p2 
oEnd)))) kRet))⟩
def q326 : OpdF := kC (.func (.func (nat_lit 326)) ⟨[]⟩ ⟨[]⟩)
noncomputable def k306 : KFun := ⟨[], (kSeq (oSet (xMove g0) p4 
(oSet (xMove g1) p5 
(oSet (xLook (lkSliceSl (nat_lit 2) g4 none (some g5) none)) p6 
(oSet (xCall q326 [g6]) p7 
oEnd)))) (kSeq (oSet (xMove g0) p8 
(oSet (xMove g1) p9 
(oSet (xLook (lkSliceSl (nat_lit 2) g8 (some g9) none none)) p10 
(oSet (xCall q326 [g10]) p11 
oEnd)))) (oSet (xMove g0) p12 
(oSet (xCall q326 [g12]) p13 
oEnd))))⟩
noncomputable def k307d0 : KD := 
(dLook (nat_lit 21) [] [(nat_lit 19)] (lkPick g23 g39 q0) p40 (dEnd [(nat_lit 19), (nat_lit 20), (nat_lit 21), (nat_lit 22), (nat_lit 23), (nat_lit 24), (nat_lit 25), (nat_lit 26), (nat_lit 27), (nat_lit 28), (nat_lit 29), (nat_lit 30), (nat_lit 31), (nat_lit 32), (nat_lit 33), (nat_lit 34), (nat_lit 35), (nat_lit 36), (nat_lit 37), (nat_lit 38), (nat_lit 39), (nat_lit 40)]))
noncomputable def k307d1 : KD := 
(dIf [(nat_lit 19)] (wantT g23) p39 (dLook (nat_lit 20) [] [(nat_lit 19)] (lkBin .lss g38 q6) p39 k307d0) k307d0)
noncomputable def k307d2 : KD := 
(dIf [] (wantT g23) p38 (dTurn (nat_lit 19) [] [] true (xCall g24 [g30, g37]) p38 k307d1) k307d1)
noncomputable def k307d3 : KD := 
(dIf [] (wantT g23) p37 (dLook (nat_lit 18) [] [] (lkLoadN (nat_lit 2) g36) p37 k307d2) k307d2)
noncomputable def k307d4 : KD := 
(dIf [] (wantT g23) p36 (dLook (nat_lit 17) [] [] (lkIxSl (nat_lit 2) g31 g35) p36 k307d3) k307d3)
noncomputable def k307d5 : KD := 
(dIf [] (wantT g23) p35 (dLook (nat_lit 16) [] [] (lkBin .add g34 q14) p35 k307d4) k307d4)
noncomputable def k307d6 : KD := 
(dIf [] (wantT g23) p34 (dLook (nat_lit 15) [] [] (lkBin .add g32 g33) p34 k307d5) k307d5)
noncomputable def k307d7 : KD := 
(dIf [] (wantT g23) p33 (dLook (nat_lit 14) [] [] (lkMove g11) p33 k307d6) k307d6)
noncomputable def k307d8 : KD := 
(dIf [] (wantT g23) p32 (dLook (nat_lit 13) [] [] (lkMove g3) p32 k307d7) k307d7)
noncomputable def k307d9 : KD := 
(dIf [] (wantT g23) p31 (dLook (nat_lit 12) [] [] (lkMove g0) p31 k307d8) k307d8)
noncomputable def k307d10 : KD := 
(dIf [] (wantT g23) p30 (dLook (nat_lit 11) [] [] (lkLoadN (nat_lit 2) g29) p30 k307d9) k307d9)
noncomputable def k307d11 : KD := 
(dIf [] (wantT g23) p29 (dLook (nat_lit 10) [] [] (lkIxSl (nat_lit 2) g25 g28) p29 k307d10) k307d10)
noncomputable def k307d12 : KD := 
(dIf [] (wantT g23) p28 (dLook (nat_lit 9) [] [] (lkBin .add g26 g27) p28 k307d11) k307d11)
noncomputable def k307d13 : KD := 
(dIf [] (wantT g23) p27 (dLook (nat_lit 8) [] [] (lkMove g11) p27 k307d12) k307d12)
noncomputable def k307d14 : KD := 
(dIf [] (wantT g23) p26 (dLook (nat_lit 7) [] [] (lkMove g3) p26 k307d13) k307d13)
noncomputable def k307d15 : KD := 
(dIf [] (wantT g23) p25 (dLook (nat_lit 6) [] [] (lkMove g0) p25 k307d14) k307d14)
noncomputable def k307 : KFun := ⟨[], (kSeq (oSet (xMove g1) p12 
(oSet (xMove g12) p10 
oEnd)) (kBlock (nat_lit 0) (kLoop (kBlock (nat_lit 1) (kSeq (oSet (xMove g10) p13 
(oSet (xLook (lkBin .mul q7 g13)) p14 
(oSet (xLook (lkBin .add g14 q14)) p15 
(oSet (xMove g15) p11 
oEnd)))) (kSeq (kSeq (oSet (xMove g11) p16 
(oSet (xMove g2) p17 
(oSet (xLook (lkBin .geq g16 g17)) p18 
oEnd))) (kCond g18 (kExit (nat_lit 0)) kSkip)) (kSeq (kSeq (kDraw 
(dLook (nat_lit 0) [] [] (lkMove g11) p19 
(dLook (nat_lit 1) [] [] (lkBin .add g19 q14) p20 
(dLook (nat_lit 2) [] [] (lkMove g2) p21 
(dLook (nat_lit 3) [] [] (lkBin .lss g20 g21) p22 
(dLook (nat_lit 4) [] [] (lkMove g22) p23 
(dIf [] (wantT g23) p24 (dLook (nat_lit 5) [] [] (lkMove g4) p24 k307d15) k307d15))))))) (kCond g40 (oSet (xMove g11) p41 
(oSet (xLook (lkBin .add g41 q14)) p42 
(oSet (xMove g42) p11 
oEnd))) kSkip)) (kSeq (kSeq (kDraw 
(dLook (nat_lit 0) [] [] (lkMove g4) p43 
(dLook (nat_lit 1) [] [] (lkMove g0) p44 
(dLook (nat_lit 2) [] [] (lkMove g3) p45 
(dLook (nat_lit 3) [] [] (lkMove g10) p46 
(dLook (nat_lit 4) [] [] (lkBin .add g45 g46) p47 
(dLook (nat_lit 5) [] [] (lkIxSl (nat_lit 2) g44 g47) p48 
(dLook (nat_lit 6) [] [] (lkLoadN (nat_lit 2) g48) p49 
(dLook (nat_lit 7) [] [] (lkMove g0) p50 
(dLook (nat_lit 8) [] [] (lkMove g3) p51 
(dLook (nat_lit 9) [] [] (lkMove g11) p52 
(dLook (nat_lit 10) [] [] (lkBin .add g51 g52) p53 
(dLook (nat_lit 11) [] [] (lkIxSl (nat_lit 2) g50 g53) p54 
(dLook (nat_lit 12) [] [] (lkLoadN (nat_lit 2) g54) p55 
(dTurn (nat_lit 13) [] [] true (xCall g43 [g49, g55]) p56 
(dLook (nat_lit 14) [] [(nat_lit 13)] (lkBin .lss g56 q6) p57 
(dLook (nat_lit 15) [] [(nat_lit 13)] (lkUn .not g57) p58 (dEnd [(nat_lit 43), (nat_lit 44), (nat_lit 45), (nat_lit 46), (nat_lit 47), (nat_lit 48), (nat_lit 49), (nat_lit 50), (nat_lit 51), (nat_lit 52), (nat_lit 53), (nat_lit 54), (nat_lit 55), (nat_lit 56), (nat_lit 57), (nat_lit 58)])))))))))))))))))) (kCond g58 kRet kSkip)) (kSeq (kDraw 
(dLook (nat_lit 0) [] [] (lkMove g0) p59 
(dLook (nat_lit 1) [] [] (lkMove g3) p60 
(dLook (nat_lit 2) [] [] (lkMove g10) p61 
(dLook (nat_lit 3) [] [] (lkBin .add g60 g61) p62 
(dLook (nat_lit 4) [] [] (lkMove g0) p63 
(dLook (nat_lit 5) [] [] (lkMove g3) p64 
(dLook (nat_lit 6) [] [] (lkMove g11) p65 
(dLook (nat_lit 7) [] [] (lkBin .add g64 g65) p66 
(dLook (nat_lit 8) [] [] (lkMove g0) p67 
(dLook (nat_lit 9) [] [] (lkMove g3) p68 
(dLook (nat_lit 10) [] [] (lkMove g11) p69 
(dLook (nat_lit 11) [] [] (lkBin .add g68 g69) p70 
(dLook (nat_lit 12) [] [] (lkIxSl (nat_lit 2) g67 g70) p71 
(dLook (nat_lit 13) [] [] (lkLoadN (nat_lit 2) g71) p72 
(dLook (nat_lit 14) [] [] (lkMove g0) p73 
(dLook (nat_lit 15) [] [] (lkMove g3) p74 
(dLook (nat_lit 16) [] [] (lkMove g10) p75 
(dLook (nat_lit 17) [] [] (lkBin .add g74 g75) p76 
(dLook (nat_lit 18) [] [] (lkIxSl (nat_lit 2) g73 g76) p77 
(dLook (nat_lit 19) [] [] (lkLoadN (nat_lit 2) g77) p78 
(dLook (nat_lit 20) [] [] (lkIxSl (nat_lit 2) g59 g62) p79 
(dTurn (nat_lit 21) [] [] true (xTurn (tnStore (nat_lit 2) g79 g72)) noDst 
(dLook (nat_lit 22) [] [(nat_lit 21)] (lkIxSl (nat_lit 2) g63 g66) p80 
(dTurn (nat_lit 23) [] [(nat_lit 21)] true (xTurn (tnStore (nat_lit 2) g80 g78)) noDst (dEnd [(nat_lit 59), (nat_lit 60), (nat_lit 61), (nat_lit 62), (nat_lit 63), (nat_lit 64), (nat_lit 65), (nat_lit 66), (nat_lit 67), (nat_lit 68), (nat_lit 69), (nat_lit 70), (nat_lit 71), (nat_lit 72), (nat_lit 73), (nat_lit 74), (nat_lit 75), (nat_lit 76), (nat_lit 77), (nat_lit 78), (nat_lit 79), (nat_lit 80)])))))))))))))))))))))))))) (oSet (xMove g11) p81 
(oSet (xMove g81) p10 
oEnd)))))))))))⟩
noncomputable def k308 : KFun := ⟨[rTmp (nat_lit 8) g8], (kSeq (oSet (xMove q6) p8 
oEnd) (kSeq (oSet (xMove g0) p9 
(oSet (xMove g1) p10 
(oSet (xLook (lkBin .sub g10 q14)) p11 
(oSet (xMove g1) p12 
(oSet (xMove g1) p13 
(oSet (xLook (lkBin .add g13 q14)) p14 
(oSet (xMove g2) p15 
(oSet (xMove g3) p16 
(oSet (xCall q325 [g9, g11, g12, g14, g15, g16]) p17 
(oSet (xMove g17) p8 
oEnd)))))))))) kRet))⟩
def q327 : OpdF := kC (.func (.func (nat_lit 327)) ⟨[]⟩ ⟨[]⟩)
noncomputable def k309 : KFun := ⟨[rTmp (nat_lit 12) g12], (kSeq (oSet (xMove q6) p12 
oEnd) (kSeq (oSet (xMove g0) p14 
(oSet (xMove g1) p15 
(oSet (xMove g2) p16 
(oSet (xMove g4) p17 
(oSet (xMove g5) p18 
(oSet (xCall q327 [g14, g15, g16, g17, g18]) p19 
(oSet (xMove g19) p13 
(oSet (xLook (lkExtract (nat_lit 0) g13)) p20 
(oSet (xLook (lkExtract (nat_lit 1) g13)) p21 
(oSet (xMove g20) p1 
(oSet (xMove g21) p2 
oEnd))))))))))) (kSeq (oSet (xMove g0) p23 
(oSet (xMove g2) p24 
(oSet (xMove g3) p25 
(oSet (xMove g4) p26 
(oSet (xMove g5) p27 
(oSet (xCall q327 [g23, g24, g25, g26, g27]) p28 
(oSet (xMove g28) p22 
(oSet (xLook (lkExtract (nat_lit 0) g22)) p29 
(oSet (xLook (lkExtract (nat_lit 1) g22)) p30 
(oSet (xMove g29) p2 
(oSet (xMove g30) p3 
oEnd))))))))))) (kSeq (oSet (xMove g0) p32 
(oSet (xMove g1) p33 
(oSet (xMove g2) p34 
(oSet (xMove g4) p35 
(oSet (xMove g5) p36 
(oSet (xCall q327 [g32, g33, g34, g35, g36]) p37 
(oSet (xMove g37) p31 
(oSet (xLook (lkExtract (nat_lit 0) g31)) p38 
(oSet (xLook (lkExtract (nat_lit 1) g31)) p39 
(oSet (xMove g38) p1 
(oSet (xMove g39) p2 
oEnd))))))))))) (kSeq (oSet (xMove g2) p40 
(oSet (xMove g40) p12 
oEnd)) kRet)))))⟩
noncomputable def k326 : KFun := ⟨[], (kSeq (oSet (xMove g0) p4 
(oSet (xLook (lkLen .sl g4)) p5 
(oSet (xLook (lkBin .sub g5 q14)) p6 
(oSet (xMove q6) p2 
(oSet (xMove g6) p3 
oEnd))))) (kBlock (nat_lit 0) (kLoop (kSeq (kSeq (oSet (xMove g2) p7 
(oSet (xMove g3) p8 
(oSet (xLook (lkBin .lss g7 g8)) p9 
oEnd))) (kCond g9 kSkip (kExit (nat_lit 0)))) (kSeq (kBlock (nat_lit 1) (kDraw 
(dLook (nat_lit 0) [] [] (lkMove g0) p14 
(dLook (nat_lit 1) [] [] (lkMove g2) p15 
(dLook (nat_lit 2) [] [] (lkMove g0) p16 
(dLook (nat_lit 3) [] [] (lkMove g3) p17 
(dLook (nat_lit 4) [] [] (lkMove g0) p18 
(dLook (nat_lit 5) [] [] (lkMove g3) p19 
(dLook (nat_lit 6) [] [] (lkIxSl (nat_lit 2) g18 g19) p20 
(dLook (nat_lit 7) [] [] (lkLoadN (nat_lit 2) g20) p21 
(dLook (nat_lit 8) [] [] (lkMove g0) p22 
(dLook (nat_lit 9) [] [] (lkMove g2) p23 
(dLook (nat_lit 10) [] [] (lkIxSl (nat_lit 2) g22 g23) p24 
(dLook (nat_lit 11) [] [] (lkLoadN (nat_lit 2) g24) p25 
(dLook (nat_lit 12) [] [] (lkIxSl (nat_lit 2) g14 g15) p26 
(dTurn (nat_lit 13) [] [] true (xTurn (tnStore (nat_lit 2) g26 g21)) noDst 
(dLook (nat_lit 14) [] [(nat_lit 13)] (lkIxSl (nat_lit 2) g16 g17) p27 
(dTurn (nat_lit 15) [] [(nat_lit 13)] true (xTurn (tnStore (nat_lit 2) g27 g25)) noDst (dEnd [(nat_lit 14), (nat_lit 15), (nat_lit 16), (nat_lit 17), (nat_lit 18), (nat_lit 19), (nat_lit 20), (nat_lit 21), (nat_lit 22), (nat_lit 23), (nat_lit 24), (nat_lit 25), (nat_lit 26), (nat_lit 27)]))))))))))))))))))) (oSet (xMove g2) p10 
(oSet (xLook (lkBin .add g10 q14)) p11 
(oSet (xMove g3) p12 
(oSet (xLook (lkBin .sub g12 q14)) p13 
(oSet (xMove g11) p2 
(oSet (xMove g13) p3 
oEnd)))))))))))⟩
noncomputable def k327 : KFun := ⟨[rTmp (nat_lit 10) g10, rTmp (nat_lit 11) g11], (kSeq (oSet (xMove q6) p10 
(oSet (xMove q6) p11 
oEnd)) (kSeq (kSeq (kDraw 
(dLook (nat_lit 0) [] [] (lkMove g4) p12 
(dLook (nat_lit 1) [] [] (lkMove g0) p13 
(dLook (nat_lit 2) [] [] (lkMove g2) p14 
(dLook (nat_lit 3) [] [] (lkIxSl (nat_lit 2) g13 g14) p15 
(dLook (nat_lit 4) [] [] (lkLoadN (nat_lit 2) g15) p16 
(dLook (nat_lit 5) [] [] (lkMove g0) p17 
(dLook (nat_lit 6) [] [] (lkMove g1) p18 
(dLook (nat_lit 7) [] [] (lkIxSl (nat_lit 2) g17 g18) p19 
(dLook (nat_lit 8) [] [] (lkLoadN (nat_lit 2) g19) p20 
(dTurn (nat_lit 9) [] [] true (xCall g12 [g16, g20]) p21 
(dLook (nat_lit 10) [] [(nat_lit 9)] (lkBin .lss g21 q6) p22 (dEnd [(nat_lit 12), (nat_lit 13), (nat_lit 14), (nat_lit 15), (nat_lit 16), (nat_lit 17), (nat_lit 18), (nat_lit 19), (nat_lit 20), (nat_lit 21), (nat_lit 22)]))))))))))))) (kCond g22 (kSeq (oSet (xMove g3) p23 
(oSet (xNil g23) p24 
(oSet (xLook (lkLoad1 g24)) p25 
(oSet (xLook (lkBin .add g25 q14)) p26 
(oSet (xNil g23) p27 
(oDo (xTurn (tnStore (nat_lit 1) g27 g26)) 
oEnd)))))) (kSeq (oSet (xMove g2) p28 
(oSet (xMove g1) p29 
(oSet (xMove g28) p10 
(oSet (xMove g29) p11 
oEnd)))) kRet)) kSkip)) (kSeq (oSet (xMove g1) p30 
(oSet (xMove g2) p31 
(oSet (xMove g30) p10 
(oSet (xMove g31) p11 
oEnd)))) kRet)))⟩
noncomputable def tab : Tr KFun := (.node none (.node none (.node none (.node none (.node none (.node (some k31) .nil (.node (some k95) (.node (some k159) .nil .nil) (.node (some k223) .nil .nil))) (.node none (.node (some k79) (.node (some k143) (.node (some k271) .nil .nil) .nil) (.node (some k207) .nil .nil)) .nil)) (.node (some k23) (.node none (.node none (.node none (.node (some k263) .nil .nil) .nil) (.node (some k199) (.node (some k327) .nil .nil) .nil)) (.node (some k103) (.node (some k167) (.node (some k295) .nil .nil) .nil) (.node (some k231) .nil .nil))) (.node none (.node (some k87) (.node (some k151) .nil .nil) (.node (some k215) .nil .nil)) .nil))) (.node none (.node (some k19) (.node none (.node none (.node none (.node (some k259) .nil .nil) .nil) (.node (some k195) .nil .nil)) (.node (some k99) (.node (some k163) (.node (some k291) .nil .nil) .nil) (.node (some k227) .nil .nil))) (.node none (.node (some k83) (.node (some k147) (.node (some k275) .nil .nil) .nil) (.node (some k211) .nil .nil)) (.node none (.node none (.node (some k307) .nil .nil) .nil) .nil))) (.node (some k27) (.node none (.node none (.node (some k139) (.node (some k267) .nil .nil) .nil) (.node (some k203) .nil .nil)) (.node none (.node none (.node (some k299) .nil .nil) .nil) .nil)) (.node none (.node (some k91) (.node (some k155) .nil .nil) (.node (some k219) .nil .nil)) .nil)))) (.node (some k5) (.node none (.node (some k17) (.node (some k33) (.node none (.node none (.node (some k257) .nil .nil) .nil) .nil) (.node (some k97) (.node (some k161) .nil .nil) (.node (some k225) .nil .nil))) (.node none (.node (some k81) (.node (some k145) (.node (some k273) .nil .nil) .nil) (.node (some k209) .nil .nil)) .nil)) (.node (some k25) (.node none (.node none (.node none (.node (some k265) .nil .nil) .nil) (.node (some k201) .nil .nil)) (.node none (.node none (.node (some k297) .nil .nil) .nil) .nil)) (.node none (.node (some k89) (.node (some k153) .nil .nil) (.node (some k217) .nil .nil)) .nil))) (.node none (.node (some k21) (.node none (.node none (.node (some k133) (.node (some k261) .nil .nil) .nil) (.node (some k197) .nil .nil)) (.node (some k101) (.node (some k165) (.node (some k293) .nil .nil) .nil) (.node (some k229) .nil .nil))) (.node none (.node (some k85) (.node (some k149) (.node (some k277) .nil .nil) .nil) (.node (some k213) .nil .nil)) (.node none (.node none (.node (some k309) .nil .nil) .nil) .nil))) (.node (some k29) (.node none (.node (some k77) (.node (some k141) (.node (some k269) .nil .nil) .nil) (.node (some k205) .nil .nil)) (.node none (.node none (.node (some k301) .nil .nil) .nil) .nil)) (.node (some k61) (.node (some k93) (.node (some k157) .nil .nil) (.node (some k221) .nil .nil)) .nil))))) (.node none (.node none (.node none (.node none (.node (some k32) (.node none (.node none (.node (some k256) .nil .nil) .nil) .nil) (.node (some k96) (.node (some k160) .nil .nil) (.node (some k224) .nil .nil))) (.node none (.node (some k80) (.node (some k144) (.node (some k272) .nil .nil) .nil) (.node (some k208) .nil .nil)) .nil)) (.node (some k24) (.node none (.node (some k72) (.node none (.node (some k264) .nil .nil) .nil) (.node (some k200) .nil .nil)) (.node (some k104) (.node (some k168) (.node (some k296) .nil .nil) .nil) (.node (some k232) .nil .nil))) (.node none (.node (some k88) (.node (some k152) .nil .nil) (.node (some k216) .nil .nil)) .nil))) (.node none (.node (some k20) (.node none (.node none (.node none (.node (some k260) .nil .nil) .nil) (.node (some k196) .nil .nil)) (.node (some k100) (.node (some k164) .nil .nil) (.node (some k228) .nil .nil))) (.node none (.node (some k84) (.node (some k148) (.node (some k276) .nil .nil) .nil) (.node (some k212) .nil .nil)) (.node none (.node none (.node (some k308) .nil .nil) .nil) .nil))) (.node (some k28) (.node none (.node (some k76) (.node (some k140) (.node (some k268) .nil .nil) .nil) (.node (some k204) .nil .nil)) (.node none (.node none (.node (some k300) .nil .nil) .nil) .nil)) (.node none (.node (some k92) (.node (some k156) .nil .nil) (.node (some k220) .nil .nil)) .nil)))) (.node none (.node none (.node (some k18) (.node none (.node none (.node none (.node (some k258) .nil .nil) .nil) .nil) (.node (some k98) (.node (some k162) .nil .nil) (.node (some k226) .nil .nil))) (.node none (.node (some k82) (.node (some k146) (.node (some k274) .nil .nil) .nil) (.node (some k210) .nil .nil)) (.node none (.node none (.node (some k306) .nil .nil) .nil) .nil))) (.node (some k26) (.node none (.node none (.node (some k138) (.node (some k266) .nil .nil) .nil) (.node (some k202) .nil .nil)) (.node none (.node none (.node (some k298) .nil .nil) .nil) .nil)) (.node none (.node (some k90) (.node (some k154) .nil .nil) (.node (some k218) .nil .nil)) .nil))) (.node none (.node (some k22) (.node none (.node (some k70) (.node (some k134) (.node (some k262) .nil .nil) .nil) (.node (some k198) (.node (some k326) .nil .nil) .nil)) (.node (some k102) (.node (some k166) (.node (some k294) .nil .nil) .nil) (.node (some k230) .nil .nil))) (.node none (.node (some k86) (.node (some k150) .nil .nil) (.node (some k214) .nil .nil)) .nil)) (.node (some k30) (.node none (.node (some k78) (.node (some k142) (.node (some k270) .nil .nil) .nil) (.node (some k206) .nil .nil)) (.node none (.node none (.node (some k302) .nil .nil) .nil) .nil)) (.node none (.node (some k94) (.node (some k158) .nil .nil) (.node (some k222) .nil .nil)) .nil))))))
end Go.Proofs.YtlajogneffpnlaaGreat.Eng
